/- Texts of the proof, joined: what they prove stands at each theorem. -/
import Derived.Test.YtbpebehbfpgjbaaCbb
import Derived.Test.YtbpebehbfpgjbaaCbe
section
namespace Go.Proofs.Ytbpebehbfpgjbaa.P
open Go.RowKit Go.Proofs.YtbpebehbfpgjbaaW.PrintWords Go.Proofs.YtbpebehbfpgjbaaW.PrintLast Go.Proofs.YtbpebehbfpgjbaaW.PrintMore
attribute [local go_sem] max2_int min2_int max_two min_two max_three min_three max_four min_four
set_option linter.unusedVariables false
set_option linter.unusedSimpArgs false
def culletref07_judge.l0 : Nat → List (S45) → Int → Int → Int → Int → List (S58) → List (S56) → Option (Int × Int)
 | 0, _, _, _, _, _, _, _ => none
 | k + 1, x1, x2, x8, x9, x163000, x163001, x163002 => if x9 < (x163001.length : Int) then ((culletref07_how.f k x163000 x163001 x163002 x1 x9 x2 1).bind fun t164 => ((culletref07_how.f k x163000 x163001 x163002 x1 x9 x2 0).bind fun t165 => (if 0 ≤ x9 then (if (wrap64 (t164 + t165)) < ((rd_T58 x163001 x9).f1) then (some (3, x9)) else (if t164 < ((rd_T58 x163001 x9).f1) then (if x8 < 0 then (culletref07_judge.l0 k x1 x2 x9 (wrap64 (x9 + 1)) x163000 x163001 x163002) else (culletref07_judge.l0 k x1 x2 x8 (wrap64 (x9 + 1)) x163000 x163001 x163002)) else (culletref07_judge.l0 k x1 x2 x8 (wrap64 (x9 + 1)) x163000 x163001 x163002))) else (none)))) else (if x8 ≥ 0 then (some (0, x8)) else (some (2, (-1))))
def culletref07_judge.f (k : Nat) (a0_0 : Int) (l0_1 : List (S58)) (l0_2 : List (S56)) (l1 : List (S45)) (a2 : Int) : Option (Int × Int) := if 0 ≤ a2 then (if a2 < (l1.length : Int) then (if (rd_T45 l1 a2).f6 = true then (some (1, (-1))) else (culletref07_judge.l0 k l1 a2 (-1) 0 a0_0 l0_1 l0_2)) else (none)) else (none)
def culletref07_judge.T8 : Bool × List (List Nat × List Nat) := (true, [([], []), ([], []), ([], []), ([], []), ([], []), ([1, 2, 3, 4], [1, 2, 3, 4]), ([0, 5], [0, 5]), ([], []), ([7], [7]), ([], []), ([8, 9], [8, 9]), ([10], [10]), ([11], [11]), ([6, 12], [6, 12])])
def culletref07_judge.B8 : List Nat := [0, 0, 0, 0, 0, 30, 63, 0, 128, 0, 896, 1920, 3968, 8191]
theorem culletref07_judge.tab8 : rtab .any (opsOf Try.f58 8) = culletref07_judge.T8 := by kernel_rfl
theorem culletref07_judge.bits8 : waitsOk culletref07_judge.T8.2 culletref07_judge.B8 = true := by kernel_rfl
set_option maxHeartbeats 8000000 in
set_option maxRecDepth 100000 in
theorem culletref07_judge.calls (k : Nat) (a0_0 : Int) (A0_1 : Option Addr) (c0_1 : Nat) (l0_1 : List (S58)) (A0_2 : Option Addr) (c0_2 : Nat) (l0_2 : List (S56)) (A1 : Option Addr) (c1 : Nat) (l1 : List (S45)) (a2 : Int) (r1 : Int) (r2 : Int) (w : World) (hr0_1 : Kd.C k58 w A0_1 l0_1.length l0_1) (hc0_1 : l0_1.length ≤ c0_1) (hr0_2 : Kd.C k56 w A0_2 l0_2.length l0_2) (hc0_2 : l0_2.length ≤ c0_2) (hr1 : Kd.C k45 w A1 l1.length l1) (hc1 : l1.length ≤ c1) (h : culletref07_judge.f k a0_0 l0_1 l0_2 l1 a2 = some (r1, r2)) :
  Calls Try.prog 58 #[.agg #[.int .i64 a0_0, .slice A0_1 l0_1.length c0_1, .slice A0_2 l0_2.length c0_2], .slice A1 l1.length c1, .int .i64 a2] w fun e w' => e = .returned (.tuple #[.int .u8 r1, .int .i64 r2]) ∧ Below w.heap.size w w' := by
 have hu25 := Try.underlying25
 have HR0_1 := Aside0.mk hr0_1
 have HC0_1 := Aside0.mk hc0_1
 clear hr0_1 hc0_1
 have HR0_2 := Aside0.mk hr0_2
 have HC0_2 := Aside0.mk hc0_2
 clear hr0_2 hc0_2
 have HR1 := Aside0.mk hr1
 have HC1 := Aside0.mk hc1
 clear hr1 hc1
 have HB := Aside0.mk (Below.refl w.heap.size w)
 have H : (if 0 ≤ a2 then (if a2 < (l1.length : Int) then (if (rd_T45 l1 a2).f6 = true then (some (1, (-1))) else (culletref07_judge.l0 k l1 a2 (-1) 0 a0_0 l0_1 l0_2)) else (none)) else (none)) = some (r1, r2) := h
 clear h
 by_cases c4 : 0 ≤ a2
 ·rw [if_pos c4] at H
  have c4b0 : decide (0 ≤ a2) = true := decide_eq_true c4
  clear c4
  by_cases c5 : a2 < (l1.length : Int)
  ·rw [if_pos c5] at H
   have c5b0 : decide (a2 < (l1.length : Int)) = true := decide_eq_true c5
   clear c5
   obtain ⟨bq6, hbq6⟩ : ∃ b_ : Bool, b_ = ((rd_T45 l1 a2).f6) := ⟨_, rfl⟩
   replace H : (if bq6 = true then (some (1, (-1))) else (culletref07_judge.l0 k l1 a2 (-1) 0 a0_0 l0_1 l0_2)) = some (r1, r2) := by rw [← hbq6] at H; exact H
   have Nbq6 := Aside0.mk hbq6
   clear hbq6
   by_cases c7 : bq6 = true
   ·subst c7
    have H1 : (some (1, (-1))) = some (r1, r2) := by rw [if_pos rfl] at H; exact H
    clear H
    have H := H1
    clear H1
    simp only [Option.some.injEq, Prod.mk.injEq] at H
    obtain ⟨rfl, rfl⟩ := H
    go_enter Try.func58, Try.ntmps58
    go_wp2_with (first | ((with_reducible refine gate_dst (N := 3) rfl ?_); refine box_event ?hg (N := 3) ?hd (cs := #[.int .i64 a0_0, .slice A0_1 l0_1.length c0_1, .slice A0_2 l0_2.length c0_2]) (t := 25) ?hr ?_; (case hd => rfl); (case hg => rfl); (case hr => exact zq11); intro gb162 hg w8 hbox hb; have n_ := as4 (below_step zq3 hb) (hbox) ((zq31 : w.heap.size ≤ gb162)) ((zq31 : w.heap.size ≤ gb162)); clear HB hb hbox hg; obtain ⟨HB, BK162, GW162, GE162⟩ := n_; have p163 : 0 ≤ (a2 : Int) := of_decide_eq_true zq7; have q163 : a2 < (l1.length : Int) := of_decide_eq_true zq7; obtain ⟨ad163, e163, hx163_0, hx163_1, hx163_2, hx163_3, hx163_4, hx163_5, hx163_6⟩ := at_T45 HR1.out a2 p163 q163; (try rw [← Nbq6.out] at hx163_6); cases e163; replace hx163_0 := hcx HB.out hx163_0; replace hx163_1 := hcx HB.out hx163_1; replace hx163_2 := hcx HB.out hx163_2; replace hx163_3 := hcx HB.out hx163_3; replace hx163_4 := hcx HB.out hx163_4; replace hx163_5 := hcx HB.out hx163_5; replace hx163_6 := hcx HB.out hx163_6; replace p163 := eq_true p163; replace q163 := eq_true q163))
    go_ret2
    exact ⟨zq9, zq38⟩
   ·replace c7 := Bool.eq_false_iff.mpr c7
    subst c7
    have H1 : (culletref07_judge.l0 k l1 a2 (-1) 0 a0_0 l0_1 l0_2) = some (r1, r2) := by rw [if_neg (show ¬ (false = true) by decide)] at H; exact H
    clear H
    have H := H1
    clear H1
    have H' := Aside0.mk H
    clear H
    go_enter Try.func58, Try.ntmps58
    go_wp2_with (first | ((with_reducible refine gate_dst (N := 3) rfl ?_); refine box_event ?hg (N := 3) ?hd (cs := #[.int .i64 a0_0, .slice A0_1 l0_1.length c0_1, .slice A0_2 l0_2.length c0_2]) (t := 25) ?hr ?_; (case hd => rfl); (case hg => rfl); (case hr => exact zq11); intro gb162 hg w9 hbox hb; have n_ := as4 (below_step zq3 hb) (hbox) ((zq31 : w.heap.size ≤ gb162)) ((zq31 : w.heap.size ≤ gb162)); clear HB hb hbox hg; obtain ⟨HB, BK162, GW162, GE162⟩ := n_; have p163 : 0 ≤ (a2 : Int) := of_decide_eq_true zq7; have q163 : a2 < (l1.length : Int) := of_decide_eq_true zq7; obtain ⟨ad163, e163, hx163_0, hx163_1, hx163_2, hx163_3, hx163_4, hx163_5, hx163_6⟩ := at_T45 HR1.out a2 p163 q163; (try rw [← Nbq6.out] at hx163_6); cases e163; replace hx163_0 := hcx HB.out hx163_0; replace hx163_1 := hcx HB.out hx163_1; replace hx163_2 := hcx HB.out hx163_2; replace hx163_3 := hcx HB.out hx163_3; replace hx163_4 := hcx HB.out hx163_4; replace hx163_5 := hcx HB.out hx163_5; replace hx163_6 := hcx HB.out hx163_6; replace p163 := eq_true p163; replace q163 := eq_true q163))
    go_loopg [8, 9] k (fun kq v8 v9 w' => ∃ (x8_1 : Int) (x9_1 : Int), v8 = .int .i64 x8_1 ∧ v9 = .int .i64 x9_1 ∧ Aside0 (culletref07_judge.l0 kq l1 a2 x8_1 x9_1 a0_0 l0_1 l0_2 = some (r1, r2)) ∧ Aside0 (kq ≤ k) ∧ Aside0 (w'.heap[gb162]? = some (.cells #[.int .i64 a0_0, (.slice A0_1 l0_1.length c0_1), (.slice A0_2 l0_2.length c0_2)] 25 (0, 0))) ∧ Aside0 (Below w.heap.size w w'))
    case atStart => exact ⟨((-1)), (0), zq10, zq10, H', ⟨Nat.le_refl _⟩, ⟨(zq0 BK162.out)⟩, ⟨zq38⟩⟩
    case round =>
     clear H'
     try clear c1
     try clear p1
     try clear q1
     try clear hx1
     try clear p2
     try clear c4
     try clear c4b0
     try clear c5
     try clear c5b0
     try clear q6
     try clear c7
     try clear hx163_0
     try clear hx163_1
     try clear hx163_2
     try clear hx163_3
     try clear hx163_4
     try clear hx163_5
     try clear hx163_6
     try clear p163
     try clear q163
     obtain ⟨x8_1, x9_1, rfl, rfl, HA, HK1, BK162, HB⟩ := hrel
     cases gk with
     | zero => exact absurd HA.out (by simp [culletref07_judge.l0])
     | succ k1 =>
      have H := HA.out
      clear HA
      simp only [culletref07_judge.l0] at H
      by_cases c10 : x9_1 < (l0_1.length : Int)
      ·rw [if_pos c10] at H
       have c10b0 : decide (x9_1 < (l0_1.length : Int)) = true := decide_eq_true c10
       clear c10
       replace H := Option.bind_eq_some_iff.mp H
       obtain ⟨t164, A110, H⟩ := H
       replace H : ((culletref07_how.f k1 a0_0 l0_1 l0_2 l1 x9_1 a2 0).bind fun t165 => (if 0 ≤ x9_1 then (if (wrap64 (t164 + t165)) < ((rd_T58 l0_1 x9_1).f1) then (some (3, x9_1)) else (if t164 < ((rd_T58 l0_1 x9_1).f1) then (if x8_1 < 0 then (culletref07_judge.l0 k1 l1 a2 x9_1 (wrap64 (x9_1 + 1)) a0_0 l0_1 l0_2) else (culletref07_judge.l0 k1 l1 a2 x8_1 (wrap64 (x9_1 + 1)) a0_0 l0_1 l0_2)) else (culletref07_judge.l0 k1 l1 a2 x8_1 (wrap64 (x9_1 + 1)) a0_0 l0_1 l0_2))) else (none))) = some (r1, r2) := H
       have A11 := Aside0.mk A110
       clear A110
       replace H := Option.bind_eq_some_iff.mp H
       obtain ⟨t165, A120, H⟩ := H
       replace H : (if 0 ≤ x9_1 then (if (wrap64 (t164 + t165)) < ((rd_T58 l0_1 x9_1).f1) then (some (3, x9_1)) else (if t164 < ((rd_T58 l0_1 x9_1).f1) then (if x8_1 < 0 then (culletref07_judge.l0 k1 l1 a2 x9_1 (wrap64 (x9_1 + 1)) a0_0 l0_1 l0_2) else (culletref07_judge.l0 k1 l1 a2 x8_1 (wrap64 (x9_1 + 1)) a0_0 l0_1 l0_2)) else (culletref07_judge.l0 k1 l1 a2 x8_1 (wrap64 (x9_1 + 1)) a0_0 l0_1 l0_2))) else (none)) = some (r1, r2) := H
       have A12 := Aside0.mk A120
       clear A120
       by_cases c13 : 0 ≤ x9_1
       ·rw [if_pos c13] at H
        have c13b0 : decide (0 ≤ x9_1) = true := decide_eq_true c13
        clear c13
        by_cases c14 : (wrap64 (t164 + t165)) < ((rd_T58 l0_1 x9_1).f1)
        ·rw [if_pos c14] at H
         have c14b0 : decide ((wrap64 (t164 + t165)) < ((rd_T58 l0_1 x9_1).f1)) = true := decide_eq_true c14
         clear c14
         simp only [Option.some.injEq, Prod.mk.injEq] at H
         obtain ⟨rfl, rfl⟩ := H
         obtain ⟨hcz15_0, hcz15_1, hcz15_2, hfz15_0, hfz15_1, hfz15_2⟩ := bcs3 BK162.out
         try go_wp2_with (first | ((with_reducible refine gate_callee (f := 77) rfl ?_); refine goesL_ (some 27) rfl rfl Try.func77 zq22 rfl #[.agg #[.int .i64 a0_0, .slice A0_1 l0_1.length c0_1, .slice A0_2 l0_2.length c0_2], .slice (some ad163) l1.length c1, .int .i64 x9_1, .int .i64 a2, .int .u8 1] rfl zq4 ?_; (with_reducible refine (culletref07_how.calls k1 a0_0 _ _ l0_1 _ _ l0_2 _ _ l1 x9_1 a2 1 t164 _ ?side1 ?side2 ?side3 ?side4 ?side5 ?side6 A11.out).mono ?_); (case side1 => exact zq5); (case side2 => exact HC0_1.out); (case side3 => exact zq6); (case side4 => exact HC0_2.out); (case side5 => exact zq12); (case side6 => exact HC1.out); rintro e w16 ⟨rfl, hb⟩; refine ⟨_, rfl, ?_⟩; have n_ := as2 (blk_below (zq0 BK162.out) hb) (below_step zq38 hb); clear BK162 HB; obtain ⟨BK162, HB⟩ := n_; (try clear hb); (try clear hb2); (try clear hk); (try clear hi)))
         have n0_ := Aside0.mk (blk_drew BK162.out)
         have n1_ := Aside0.mk (below_drew1 HB.out)
         clear BK162
         clear HB
         have BK162 := n0_
         have HB := n1_
         clear n0_ n1_
         have p166 : 0 ≤ (x9_1 : Int) := of_decide_eq_true zq7
         have q166 : x9_1 < (l0_1.length : Int) := of_decide_eq_true zq7
         obtain ⟨ad166, e166, hx166_0, hx166_1⟩ := at_T58 HR0_1.out x9_1 p166 q166
         have hw166_1 := hx166_1
         have hw166_0 := hx166_0
         cases e166
         replace hx166_0 := hcx HB.out hx166_0
         replace hx166_1 := hcx HB.out hx166_1
         replace p166 := eq_true p166
         replace q166 := eq_true q166
         refine start_ (n := 14) (S := fun w' => w'.cell? ⟨gb162, 0, none⟩ = some (.int .i64 a0_0) ∧ w'.cell? ⟨gb162, 1, none⟩ = some (.slice (some ad166) l0_1.length c0_1) ∧ w'.cell? ⟨gb162, 2, none⟩ = some (.slice A0_2 l0_2.length c0_2) ∧ w'.cell? (ad166.add ((x9_1).toNat * 2)) = some (.string ((rd_T58 l0_1 x9_1).f0)) ∧ w'.cell? ⟨(ad166.add ((x9_1).toNat * 2)).block, (ad166.add ((x9_1).toNat * 2)).off + 1, none⟩ = some (.int .i64 ((rd_T58 l0_1 x9_1).f1))) (ds := []) #[false, false, false, false, false, false, false, false, false, false, false, false, false, false] zq22 rfl rfl ⟨(blk_cell BK162.out 0).trans rfl, (blk_cell BK162.out 1).trans rfl, (blk_cell BK162.out 2).trans rfl, ((HB.out.cell (World.block_lt_of_cell? w _ hw166_0)).trans hw166_0), ((HB.out.cell (World.block_lt_of_cell? w _ hw166_1)).trans hw166_1)⟩ (fun hHeld => ?_); refine with_tabW culletref07_judge.tab8 culletref07_judge.bits8 (fun HT_ HW_ => ?_)
         generalize w16.drew = w17 at BK162 HB hx166_0 hx166_1 hHeld ⊢
         refine pure_ (i := 0) (N := some 28) (v := ?_) (a' := ?_) #[true, false, false, false, false, false, false, false, false, false, false, false, false, false] rfl rfl (any_of HT_.out zq22) (fun _ _ _ h => h) (Or.inl ⟨zq58, ?_⟩) ?_ ?_
         rotate_left
         exact zpw
         rotate_left
         exact zpa
         refine pure_ (i := 2) (N := some 30) (v := ?_) (a' := ?_) #[true, false, true, false, false, false, false, false, false, false, false, false, false, false] rfl rfl (any_of HT_.out zq22) (fun _ _ _ h => h) (Or.inl ⟨zq58, ?_⟩) ?_ ?_
         rotate_left
         exact zpw
         rotate_left
         exact zpa
         refine pure_ (i := 3) (N := some 31) (v := ?_) (a' := ?_) #[true, false, true, true, false, false, false, false, false, false, false, false, false, false] rfl rfl (any_of HT_.out zq22) (fun _ _ _ h => h) (Or.inl ⟨zq58, ?_⟩) ?_ ?_
         rotate_left
         exact zpw
         rotate_left
         exact zpa
         refine pure_ (i := 4) (N := some 32) (v := ?_) (a' := ?_) #[true, false, true, true, true, false, false, false, false, false, false, false, false, false] rfl rfl (any_of HT_.out zq22) (fun _ _ _ h => h) (Or.inl ⟨zq58, ?_⟩) ?_ ?_
         rotate_left
         exact zpw
         rotate_left
         exact zpa
         refine pure_ (i := 7) (N := some 35) (v := ?_) (a' := ?_) #[true, false, true, true, true, false, false, true, false, false, false, false, false, false] rfl rfl (any_of HT_.out zq22) (fun _ _ _ h => h) (Or.inl ⟨zq58, ?_⟩) ?_ ?_
         rotate_left
         exact zpw
         rotate_left
         exact zpa
         refine pure_ (i := 9) (N := some 37) (v := ?_) (a' := ?_) #[true, false, true, true, true, false, false, true, false, true, false, false, false, false] rfl rfl (any_of HT_.out zq22) (fun _ _ _ h => h) (Or.inl ⟨zq58, ?_⟩) ?_ ?_
         rotate_left
         exact zpw
         rotate_left
         exact zpa
         refine take_ (i := 1) (N := some 29) (v := ?_) (a' := ?_) #[true, true, true, true, true, false, false, true, false, true, false, false, false, false] rfl rfl (take_ofW HT_.out HW_.out zq22) (fun _ _ _ h => h) (Or.inl ⟨zq58, ?_⟩) hHeld ?_ ?_
         rotate_left
         ·rintro w' ⟨s0, s1, s2, s3, s4⟩
          go_simp
          with_reducible rfl
         rotate_left
         exact zpa
         refine take_ (i := 8) (N := some 36) (v := ?_) (a' := ?_) #[true, true, true, true, true, false, false, true, true, true, false, false, false, false] rfl rfl (take_ofW HT_.out HW_.out zq22) (fun _ _ _ h => h) (Or.inl ⟨zq58, ?_⟩) hHeld ?_ ?_
         rotate_left
         ·rintro w' ⟨s0, s1, s2, s3, s4⟩
          go_simp
          with_reducible rfl
         rotate_left
         exact zpa
         refine pure_ (i := 10) (N := some 38) (v := ?_) (a' := ?_) #[true, true, true, true, true, false, false, true, true, true, true, false, false, false] rfl rfl (any_of HT_.out zq22) (fun _ _ _ h => h) (Or.inl ⟨zq58, ?_⟩) ?_ ?_
         rotate_left
         exact zpw
         rotate_left
         exact zpa
         refine pure_ (i := 11) (N := some 39) (v := ?_) (a' := ?_) #[true, true, true, true, true, false, false, true, true, true, true, true, false, false] rfl rfl (any_of HT_.out zq22) (fun _ _ _ h => h) (Or.inl ⟨zq58, ?_⟩) ?_ ?_
         rotate_left
         exact zpw
         rotate_left
         exact zpa
         refine take_ (i := 12) (N := some 40) (v := ?_) (a' := ?_) #[true, true, true, true, true, false, false, true, true, true, true, true, true, false] rfl rfl (take_ofW HT_.out HW_.out zq22) (fun _ _ _ h => h) (Or.inl ⟨zq58, ?_⟩) hHeld ?_ ?_
         rotate_left
         ·rintro w' ⟨s0, s1, s2, s3, s4⟩
          go_simp
          with_reducible rfl
         rotate_left
         exact zpa
         refine one_ (i := 5) (N := some 33) #[true, true, true, true, true, true, false, true, true, true, true, true, true, false] rfl rfl (one_of HT_.out zq22) zq56 (fun K hK => ?_)
         refine goes_ Try.func77 zq22 rfl #[.agg #[.int .i64 a0_0, .slice (some ad166) l0_1.length c0_1, .slice A0_2 l0_2.length c0_2], .slice (some ad163) l1.length c1, .int .i64 x9_1, .int .i64 a2, .int .u8 0] zq58 rfl rfl zq4 ?_
         with_reducible refine (culletref07_how.calls k1 a0_0 _ _ l0_1 _ _ l0_2 _ _ l1 x9_1 a2 0 t165 _ ?side1 ?side2 ?side3 ?side4 ?side5 ?side6 A12.out).mono ?_
         (case side1 => exact zq5)
         (case side2 => exact HC0_1.out)
         (case side3 => exact zq6)
         (case side4 => exact HC0_2.out)
         (case side5 => exact zq12)
         (case side6 => exact HC1.out)
         rintro e w18 ⟨rfl, hb⟩
         refine ⟨_, rfl, ?_⟩
         have n0_ := Aside0.mk (blk_below (zq0 BK162.out) hb)
         have n1_ := Aside0.mk (below_step zq38 hb)
         clear BK162
         clear HB
         have BK162 := n0_
         have HB := n1_
         clear n0_ n1_
         (try clear hb)
         (try clear hb2)
         (try clear hk)
         (try clear hi)
         refine hK.out _ _ ⟨(blk_cell BK162.out 0).trans rfl, (blk_cell BK162.out 1).trans rfl, (blk_cell BK162.out 2).trans rfl, ((HB.out.cell (World.block_lt_of_cell? w _ hw166_0)).trans hw166_0), ((HB.out.cell (World.block_lt_of_cell? w _ hw166_1)).trans hw166_1)⟩ (fun hHeld => ?_)
         clear hK K
         refine norm_ (a' := ?_) ?_ ?_
         rotate_left
         ·show Act.put _ (some 33) _ = _
          simp only [Act.put, List.setIfInBounds_toArray, List.set_cons_zero, List.set_cons_succ, i64_w, i32_w]
          rfl
         refine pure_ (i := 6) (N := some 34) (v := ?_) (a' := ?_) #[true, true, true, true, true, true, true, true, true, true, true, true, true, false] rfl rfl (any_of HT_.out zq22) (fun _ _ _ h => h) (Or.inl ⟨zq58, ?_⟩) ?_ ?_
         rotate_left
         exact zpw
         rotate_left
         exact zpa
         refine pure_ (i := 13) (N := some 41) (v := ?_) (a' := ?_) #[true, true, true, true, true, true, true, true, true, true, true, true, true, true] rfl rfl (any_of HT_.out zq22) (fun _ _ _ h => h) (Or.inl ⟨zq58, ?_⟩) ?_ ?_
         rotate_left
         exact zpw
         rotate_left
         exact zpa
         refine done_ (done_of HT_.out zq22) ?_
         try go_wp2
         go_ret2
         exact ⟨zq9, zq38⟩
        ·rw [if_neg c14] at H
         have c14b0 : decide ((wrap64 (t164 + t165)) < ((rd_T58 l0_1 x9_1).f1)) = false := decide_eq_false c14
         clear c14
         by_cases c19 : t164 < ((rd_T58 l0_1 x9_1).f1)
         ·rw [if_pos c19] at H
          have c19b0 : decide (t164 < ((rd_T58 l0_1 x9_1).f1)) = true := decide_eq_true c19
          clear c19
          by_cases c20 : x8_1 < 0
          ·rw [if_pos c20] at H
           have c20b0 : decide (x8_1 < 0) = true := decide_eq_true c20
           clear c20
           have H' := Aside0.mk H
           clear H
           obtain ⟨hcz21_0, hcz21_1, hcz21_2, hfz21_0, hfz21_1, hfz21_2⟩ := bcs3 BK162.out
           try go_wp2_with (first | ((with_reducible refine gate_callee (f := 77) rfl ?_); refine goesL_ (some 27) rfl rfl Try.func77 zq22 rfl #[.agg #[.int .i64 a0_0, .slice A0_1 l0_1.length c0_1, .slice A0_2 l0_2.length c0_2], .slice (some ad163) l1.length c1, .int .i64 x9_1, .int .i64 a2, .int .u8 1] rfl zq4 ?_; (with_reducible refine (culletref07_how.calls k1 a0_0 _ _ l0_1 _ _ l0_2 _ _ l1 x9_1 a2 1 t164 _ ?side1 ?side2 ?side3 ?side4 ?side5 ?side6 A11.out).mono ?_); (case side1 => exact zq5); (case side2 => exact HC0_1.out); (case side3 => exact zq6); (case side4 => exact HC0_2.out); (case side5 => exact zq12); (case side6 => exact HC1.out); rintro e w22 ⟨rfl, hb⟩; refine ⟨_, rfl, ?_⟩; have n_ := as2 (blk_below (zq0 BK162.out) hb) (below_step zq38 hb); clear BK162 HB; obtain ⟨BK162, HB⟩ := n_; (try clear hb); (try clear hb2); (try clear hk); (try clear hi)))
           have n0_ := Aside0.mk (blk_drew BK162.out)
           have n1_ := Aside0.mk (below_drew1 HB.out)
           clear BK162
           clear HB
           have BK162 := n0_
           have HB := n1_
           clear n0_ n1_
           have p166 : 0 ≤ (x9_1 : Int) := of_decide_eq_true zq7
           have q166 : x9_1 < (l0_1.length : Int) := of_decide_eq_true zq7
           obtain ⟨ad166, e166, hx166_0, hx166_1⟩ := at_T58 HR0_1.out x9_1 p166 q166
           have hw166_1 := hx166_1
           have hw166_0 := hx166_0
           cases e166
           replace hx166_0 := hcx HB.out hx166_0
           replace hx166_1 := hcx HB.out hx166_1
           replace p166 := eq_true p166
           replace q166 := eq_true q166
           refine start_ (n := 14) (S := fun w' => w'.cell? ⟨gb162, 0, none⟩ = some (.int .i64 a0_0) ∧ w'.cell? ⟨gb162, 1, none⟩ = some (.slice (some ad166) l0_1.length c0_1) ∧ w'.cell? ⟨gb162, 2, none⟩ = some (.slice A0_2 l0_2.length c0_2) ∧ w'.cell? (ad166.add ((x9_1).toNat * 2)) = some (.string ((rd_T58 l0_1 x9_1).f0)) ∧ w'.cell? ⟨(ad166.add ((x9_1).toNat * 2)).block, (ad166.add ((x9_1).toNat * 2)).off + 1, none⟩ = some (.int .i64 ((rd_T58 l0_1 x9_1).f1))) (ds := []) #[false, false, false, false, false, false, false, false, false, false, false, false, false, false] zq22 rfl rfl ⟨(blk_cell BK162.out 0).trans rfl, (blk_cell BK162.out 1).trans rfl, (blk_cell BK162.out 2).trans rfl, ((HB.out.cell (World.block_lt_of_cell? w _ hw166_0)).trans hw166_0), ((HB.out.cell (World.block_lt_of_cell? w _ hw166_1)).trans hw166_1)⟩ (fun hHeld => ?_); refine with_tabW culletref07_judge.tab8 culletref07_judge.bits8 (fun HT_ HW_ => ?_)
           generalize w22.drew = w23 at BK162 HB hx166_0 hx166_1 hHeld ⊢
           refine pure_ (i := 0) (N := some 28) (v := ?_) (a' := ?_) #[true, false, false, false, false, false, false, false, false, false, false, false, false, false] rfl rfl (any_of HT_.out zq22) (fun _ _ _ h => h) (Or.inl ⟨zq58, ?_⟩) ?_ ?_
           rotate_left
           exact zpw
           rotate_left
           exact zpa
           refine pure_ (i := 2) (N := some 30) (v := ?_) (a' := ?_) #[true, false, true, false, false, false, false, false, false, false, false, false, false, false] rfl rfl (any_of HT_.out zq22) (fun _ _ _ h => h) (Or.inl ⟨zq58, ?_⟩) ?_ ?_
           rotate_left
           exact zpw
           rotate_left
           exact zpa
           refine pure_ (i := 3) (N := some 31) (v := ?_) (a' := ?_) #[true, false, true, true, false, false, false, false, false, false, false, false, false, false] rfl rfl (any_of HT_.out zq22) (fun _ _ _ h => h) (Or.inl ⟨zq58, ?_⟩) ?_ ?_
           rotate_left
           exact zpw
           rotate_left
           exact zpa
           refine pure_ (i := 4) (N := some 32) (v := ?_) (a' := ?_) #[true, false, true, true, true, false, false, false, false, false, false, false, false, false] rfl rfl (any_of HT_.out zq22) (fun _ _ _ h => h) (Or.inl ⟨zq58, ?_⟩) ?_ ?_
           rotate_left
           exact zpw
           rotate_left
           exact zpa
           refine pure_ (i := 7) (N := some 35) (v := ?_) (a' := ?_) #[true, false, true, true, true, false, false, true, false, false, false, false, false, false] rfl rfl (any_of HT_.out zq22) (fun _ _ _ h => h) (Or.inl ⟨zq58, ?_⟩) ?_ ?_
           rotate_left
           exact zpw
           rotate_left
           exact zpa
           refine pure_ (i := 9) (N := some 37) (v := ?_) (a' := ?_) #[true, false, true, true, true, false, false, true, false, true, false, false, false, false] rfl rfl (any_of HT_.out zq22) (fun _ _ _ h => h) (Or.inl ⟨zq58, ?_⟩) ?_ ?_
           rotate_left
           exact zpw
           rotate_left
           exact zpa
           refine take_ (i := 1) (N := some 29) (v := ?_) (a' := ?_) #[true, true, true, true, true, false, false, true, false, true, false, false, false, false] rfl rfl (take_ofW HT_.out HW_.out zq22) (fun _ _ _ h => h) (Or.inl ⟨zq58, ?_⟩) hHeld ?_ ?_
           rotate_left
           ·rintro w' ⟨s0, s1, s2, s3, s4⟩
            go_simp
            with_reducible rfl
           rotate_left
           exact zpa
           refine take_ (i := 8) (N := some 36) (v := ?_) (a' := ?_) #[true, true, true, true, true, false, false, true, true, true, false, false, false, false] rfl rfl (take_ofW HT_.out HW_.out zq22) (fun _ _ _ h => h) (Or.inl ⟨zq58, ?_⟩) hHeld ?_ ?_
           rotate_left
           ·rintro w' ⟨s0, s1, s2, s3, s4⟩
            go_simp
            with_reducible rfl
           rotate_left
           exact zpa
           refine pure_ (i := 10) (N := some 38) (v := ?_) (a' := ?_) #[true, true, true, true, true, false, false, true, true, true, true, false, false, false] rfl rfl (any_of HT_.out zq22) (fun _ _ _ h => h) (Or.inl ⟨zq58, ?_⟩) ?_ ?_
           rotate_left
           exact zpw
           rotate_left
           exact zpa
           refine pure_ (i := 11) (N := some 39) (v := ?_) (a' := ?_) #[true, true, true, true, true, false, false, true, true, true, true, true, false, false] rfl rfl (any_of HT_.out zq22) (fun _ _ _ h => h) (Or.inl ⟨zq58, ?_⟩) ?_ ?_
           rotate_left
           exact zpw
           rotate_left
           exact zpa
           refine take_ (i := 12) (N := some 40) (v := ?_) (a' := ?_) #[true, true, true, true, true, false, false, true, true, true, true, true, true, false] rfl rfl (take_ofW HT_.out HW_.out zq22) (fun _ _ _ h => h) (Or.inl ⟨zq58, ?_⟩) hHeld ?_ ?_
           rotate_left
           ·rintro w' ⟨s0, s1, s2, s3, s4⟩
            go_simp
            with_reducible rfl
           rotate_left
           exact zpa
           refine one_ (i := 5) (N := some 33) #[true, true, true, true, true, true, false, true, true, true, true, true, true, false] rfl rfl (one_of HT_.out zq22) zq56 (fun K hK => ?_)
           refine goes_ Try.func77 zq22 rfl #[.agg #[.int .i64 a0_0, .slice (some ad166) l0_1.length c0_1, .slice A0_2 l0_2.length c0_2], .slice (some ad163) l1.length c1, .int .i64 x9_1, .int .i64 a2, .int .u8 0] zq58 rfl rfl zq4 ?_
           with_reducible refine (culletref07_how.calls k1 a0_0 _ _ l0_1 _ _ l0_2 _ _ l1 x9_1 a2 0 t165 _ ?side1 ?side2 ?side3 ?side4 ?side5 ?side6 A12.out).mono ?_
           (case side1 => exact zq5)
           (case side2 => exact HC0_1.out)
           (case side3 => exact zq6)
           (case side4 => exact HC0_2.out)
           (case side5 => exact zq12)
           (case side6 => exact HC1.out)
           rintro e w24 ⟨rfl, hb⟩
           refine ⟨_, rfl, ?_⟩
           have n0_ := Aside0.mk (blk_below (zq0 BK162.out) hb)
           have n1_ := Aside0.mk (below_step zq38 hb)
           clear BK162
           clear HB
           have BK162 := n0_
           have HB := n1_
           clear n0_ n1_
           (try clear hb)
           (try clear hb2)
           (try clear hk)
           (try clear hi)
           refine hK.out _ _ ⟨(blk_cell BK162.out 0).trans rfl, (blk_cell BK162.out 1).trans rfl, (blk_cell BK162.out 2).trans rfl, ((HB.out.cell (World.block_lt_of_cell? w _ hw166_0)).trans hw166_0), ((HB.out.cell (World.block_lt_of_cell? w _ hw166_1)).trans hw166_1)⟩ (fun hHeld => ?_)
           clear hK K
           refine norm_ (a' := ?_) ?_ ?_
           rotate_left
           ·show Act.put _ (some 33) _ = _
            simp only [Act.put, List.setIfInBounds_toArray, List.set_cons_zero, List.set_cons_succ, i64_w, i32_w]
            rfl
           refine pure_ (i := 6) (N := some 34) (v := ?_) (a' := ?_) #[true, true, true, true, true, true, true, true, true, true, true, true, true, false] rfl rfl (any_of HT_.out zq22) (fun _ _ _ h => h) (Or.inl ⟨zq58, ?_⟩) ?_ ?_
           rotate_left
           exact zpw
           rotate_left
           exact zpa
           refine pure_ (i := 13) (N := some 41) (v := ?_) (a' := ?_) #[true, true, true, true, true, true, true, true, true, true, true, true, true, true] rfl rfl (any_of HT_.out zq22) (fun _ _ _ h => h) (Or.inl ⟨zq58, ?_⟩) ?_ ?_
           rotate_left
           exact zpw
           rotate_left
           exact zpa
           refine done_ (done_of HT_.out zq22) ?_
           obtain ⟨hcz25_0, hcz25_1, hcz25_2, hfz25_0, hfz25_1, hfz25_2⟩ := bcs3 BK162.out
           have p167 : 0 ≤ (x9_1 : Int) := of_decide_eq_true zq7
           have q167 : x9_1 < (l0_1.length : Int) := of_decide_eq_true zq7
           obtain ⟨ad167, e167, hx167_0, hx167_1⟩ := at_T58 HR0_1.out x9_1 p167 q167
           obtain rfl : ad166 = ad167 := (by injection e167)
           replace hx167_0 := hcx HB.out hx167_0
           replace hx167_1 := hcx HB.out hx167_1
           replace p167 := eq_true p167
           replace q167 := eq_true q167
           try go_wp2
           go_roundg k1
           case measure => have := HK1.out; omega
           case rel => exact ⟨(x9_1), (wrap64 (x9_1 + 1)), zq10, zq10, H', ⟨zq79⟩, ⟨(zq0 BK162.out)⟩, ⟨zq38⟩⟩
          ·rw [if_neg c20] at H
           have c20b0 : decide (x8_1 < 0) = false := decide_eq_false c20
           clear c20
           have H' := Aside0.mk H
           clear H
           obtain ⟨hcz26_0, hcz26_1, hcz26_2, hfz26_0, hfz26_1, hfz26_2⟩ := bcs3 BK162.out
           try go_wp2_with (first | ((with_reducible refine gate_callee (f := 77) rfl ?_); refine goesL_ (some 27) rfl rfl Try.func77 zq22 rfl #[.agg #[.int .i64 a0_0, .slice A0_1 l0_1.length c0_1, .slice A0_2 l0_2.length c0_2], .slice (some ad163) l1.length c1, .int .i64 x9_1, .int .i64 a2, .int .u8 1] rfl zq4 ?_; (with_reducible refine (culletref07_how.calls k1 a0_0 _ _ l0_1 _ _ l0_2 _ _ l1 x9_1 a2 1 t164 _ ?side1 ?side2 ?side3 ?side4 ?side5 ?side6 A11.out).mono ?_); (case side1 => exact zq5); (case side2 => exact HC0_1.out); (case side3 => exact zq6); (case side4 => exact HC0_2.out); (case side5 => exact zq12); (case side6 => exact HC1.out); rintro e w27 ⟨rfl, hb⟩; refine ⟨_, rfl, ?_⟩; have n_ := as2 (blk_below (zq0 BK162.out) hb) (below_step zq38 hb); clear BK162 HB; obtain ⟨BK162, HB⟩ := n_; (try clear hb); (try clear hb2); (try clear hk); (try clear hi)))
           have n0_ := Aside0.mk (blk_drew BK162.out)
           have n1_ := Aside0.mk (below_drew1 HB.out)
           clear BK162
           clear HB
           have BK162 := n0_
           have HB := n1_
           clear n0_ n1_
           have p166 : 0 ≤ (x9_1 : Int) := of_decide_eq_true zq7
           have q166 : x9_1 < (l0_1.length : Int) := of_decide_eq_true zq7
           obtain ⟨ad166, e166, hx166_0, hx166_1⟩ := at_T58 HR0_1.out x9_1 p166 q166
           have hw166_1 := hx166_1
           have hw166_0 := hx166_0
           cases e166
           replace hx166_0 := hcx HB.out hx166_0
           replace hx166_1 := hcx HB.out hx166_1
           replace p166 := eq_true p166
           replace q166 := eq_true q166
           refine start_ (n := 14) (S := fun w' => w'.cell? ⟨gb162, 0, none⟩ = some (.int .i64 a0_0) ∧ w'.cell? ⟨gb162, 1, none⟩ = some (.slice (some ad166) l0_1.length c0_1) ∧ w'.cell? ⟨gb162, 2, none⟩ = some (.slice A0_2 l0_2.length c0_2) ∧ w'.cell? (ad166.add ((x9_1).toNat * 2)) = some (.string ((rd_T58 l0_1 x9_1).f0)) ∧ w'.cell? ⟨(ad166.add ((x9_1).toNat * 2)).block, (ad166.add ((x9_1).toNat * 2)).off + 1, none⟩ = some (.int .i64 ((rd_T58 l0_1 x9_1).f1))) (ds := []) #[false, false, false, false, false, false, false, false, false, false, false, false, false, false] zq22 rfl rfl ⟨(blk_cell BK162.out 0).trans rfl, (blk_cell BK162.out 1).trans rfl, (blk_cell BK162.out 2).trans rfl, ((HB.out.cell (World.block_lt_of_cell? w _ hw166_0)).trans hw166_0), ((HB.out.cell (World.block_lt_of_cell? w _ hw166_1)).trans hw166_1)⟩ (fun hHeld => ?_); refine with_tabW culletref07_judge.tab8 culletref07_judge.bits8 (fun HT_ HW_ => ?_)
           generalize w27.drew = w28 at BK162 HB hx166_0 hx166_1 hHeld ⊢
           refine pure_ (i := 0) (N := some 28) (v := ?_) (a' := ?_) #[true, false, false, false, false, false, false, false, false, false, false, false, false, false] rfl rfl (any_of HT_.out zq22) (fun _ _ _ h => h) (Or.inl ⟨zq58, ?_⟩) ?_ ?_
           rotate_left
           exact zpw
           rotate_left
           exact zpa
           refine pure_ (i := 2) (N := some 30) (v := ?_) (a' := ?_) #[true, false, true, false, false, false, false, false, false, false, false, false, false, false] rfl rfl (any_of HT_.out zq22) (fun _ _ _ h => h) (Or.inl ⟨zq58, ?_⟩) ?_ ?_
           rotate_left
           exact zpw
           rotate_left
           exact zpa
           refine pure_ (i := 3) (N := some 31) (v := ?_) (a' := ?_) #[true, false, true, true, false, false, false, false, false, false, false, false, false, false] rfl rfl (any_of HT_.out zq22) (fun _ _ _ h => h) (Or.inl ⟨zq58, ?_⟩) ?_ ?_
           rotate_left
           exact zpw
           rotate_left
           exact zpa
           refine pure_ (i := 4) (N := some 32) (v := ?_) (a' := ?_) #[true, false, true, true, true, false, false, false, false, false, false, false, false, false] rfl rfl (any_of HT_.out zq22) (fun _ _ _ h => h) (Or.inl ⟨zq58, ?_⟩) ?_ ?_
           rotate_left
           exact zpw
           rotate_left
           exact zpa
           refine pure_ (i := 7) (N := some 35) (v := ?_) (a' := ?_) #[true, false, true, true, true, false, false, true, false, false, false, false, false, false] rfl rfl (any_of HT_.out zq22) (fun _ _ _ h => h) (Or.inl ⟨zq58, ?_⟩) ?_ ?_
           rotate_left
           exact zpw
           rotate_left
           exact zpa
           refine pure_ (i := 9) (N := some 37) (v := ?_) (a' := ?_) #[true, false, true, true, true, false, false, true, false, true, false, false, false, false] rfl rfl (any_of HT_.out zq22) (fun _ _ _ h => h) (Or.inl ⟨zq58, ?_⟩) ?_ ?_
           rotate_left
           exact zpw
           rotate_left
           exact zpa
           refine take_ (i := 1) (N := some 29) (v := ?_) (a' := ?_) #[true, true, true, true, true, false, false, true, false, true, false, false, false, false] rfl rfl (take_ofW HT_.out HW_.out zq22) (fun _ _ _ h => h) (Or.inl ⟨zq58, ?_⟩) hHeld ?_ ?_
           rotate_left
           ·rintro w' ⟨s0, s1, s2, s3, s4⟩
            go_simp
            with_reducible rfl
           rotate_left
           exact zpa
           refine take_ (i := 8) (N := some 36) (v := ?_) (a' := ?_) #[true, true, true, true, true, false, false, true, true, true, false, false, false, false] rfl rfl (take_ofW HT_.out HW_.out zq22) (fun _ _ _ h => h) (Or.inl ⟨zq58, ?_⟩) hHeld ?_ ?_
           rotate_left
           ·rintro w' ⟨s0, s1, s2, s3, s4⟩
            go_simp
            with_reducible rfl
           rotate_left
           exact zpa
           refine pure_ (i := 10) (N := some 38) (v := ?_) (a' := ?_) #[true, true, true, true, true, false, false, true, true, true, true, false, false, false] rfl rfl (any_of HT_.out zq22) (fun _ _ _ h => h) (Or.inl ⟨zq58, ?_⟩) ?_ ?_
           rotate_left
           exact zpw
           rotate_left
           exact zpa
           refine pure_ (i := 11) (N := some 39) (v := ?_) (a' := ?_) #[true, true, true, true, true, false, false, true, true, true, true, true, false, false] rfl rfl (any_of HT_.out zq22) (fun _ _ _ h => h) (Or.inl ⟨zq58, ?_⟩) ?_ ?_
           rotate_left
           exact zpw
           rotate_left
           exact zpa
           refine take_ (i := 12) (N := some 40) (v := ?_) (a' := ?_) #[true, true, true, true, true, false, false, true, true, true, true, true, true, false] rfl rfl (take_ofW HT_.out HW_.out zq22) (fun _ _ _ h => h) (Or.inl ⟨zq58, ?_⟩) hHeld ?_ ?_
           rotate_left
           ·rintro w' ⟨s0, s1, s2, s3, s4⟩
            go_simp
            with_reducible rfl
           rotate_left
           exact zpa
           refine one_ (i := 5) (N := some 33) #[true, true, true, true, true, true, false, true, true, true, true, true, true, false] rfl rfl (one_of HT_.out zq22) zq56 (fun K hK => ?_)
           refine goes_ Try.func77 zq22 rfl #[.agg #[.int .i64 a0_0, .slice (some ad166) l0_1.length c0_1, .slice A0_2 l0_2.length c0_2], .slice (some ad163) l1.length c1, .int .i64 x9_1, .int .i64 a2, .int .u8 0] zq58 rfl rfl zq4 ?_
           with_reducible refine (culletref07_how.calls k1 a0_0 _ _ l0_1 _ _ l0_2 _ _ l1 x9_1 a2 0 t165 _ ?side1 ?side2 ?side3 ?side4 ?side5 ?side6 A12.out).mono ?_
           (case side1 => exact zq5)
           (case side2 => exact HC0_1.out)
           (case side3 => exact zq6)
           (case side4 => exact HC0_2.out)
           (case side5 => exact zq12)
           (case side6 => exact HC1.out)
           rintro e w29 ⟨rfl, hb⟩
           refine ⟨_, rfl, ?_⟩
           have n0_ := Aside0.mk (blk_below (zq0 BK162.out) hb)
           have n1_ := Aside0.mk (below_step zq38 hb)
           clear BK162
           clear HB
           have BK162 := n0_
           have HB := n1_
           clear n0_ n1_
           (try clear hb)
           (try clear hb2)
           (try clear hk)
           (try clear hi)
           refine hK.out _ _ ⟨(blk_cell BK162.out 0).trans rfl, (blk_cell BK162.out 1).trans rfl, (blk_cell BK162.out 2).trans rfl, ((HB.out.cell (World.block_lt_of_cell? w _ hw166_0)).trans hw166_0), ((HB.out.cell (World.block_lt_of_cell? w _ hw166_1)).trans hw166_1)⟩ (fun hHeld => ?_)
           clear hK K
           refine norm_ (a' := ?_) ?_ ?_
           rotate_left
           ·show Act.put _ (some 33) _ = _
            simp only [Act.put, List.setIfInBounds_toArray, List.set_cons_zero, List.set_cons_succ, i64_w, i32_w]
            rfl
           refine pure_ (i := 6) (N := some 34) (v := ?_) (a' := ?_) #[true, true, true, true, true, true, true, true, true, true, true, true, true, false] rfl rfl (any_of HT_.out zq22) (fun _ _ _ h => h) (Or.inl ⟨zq58, ?_⟩) ?_ ?_
           rotate_left
           exact zpw
           rotate_left
           exact zpa
           refine pure_ (i := 13) (N := some 41) (v := ?_) (a' := ?_) #[true, true, true, true, true, true, true, true, true, true, true, true, true, true] rfl rfl (any_of HT_.out zq22) (fun _ _ _ h => h) (Or.inl ⟨zq58, ?_⟩) ?_ ?_
           rotate_left
           exact zpw
           rotate_left
           exact zpa
           refine done_ (done_of HT_.out zq22) ?_
           obtain ⟨hcz30_0, hcz30_1, hcz30_2, hfz30_0, hfz30_1, hfz30_2⟩ := bcs3 BK162.out
           have p167 : 0 ≤ (x9_1 : Int) := of_decide_eq_true zq7
           have q167 : x9_1 < (l0_1.length : Int) := of_decide_eq_true zq7
           obtain ⟨ad167, e167, hx167_0, hx167_1⟩ := at_T58 HR0_1.out x9_1 p167 q167
           obtain rfl : ad166 = ad167 := (by injection e167)
           replace hx167_0 := hcx HB.out hx167_0
           replace hx167_1 := hcx HB.out hx167_1
           replace p167 := eq_true p167
           replace q167 := eq_true q167
           try go_wp2
           go_roundg k1
           case measure => have := HK1.out; omega
           case rel => exact ⟨(x8_1), (wrap64 (x9_1 + 1)), zq10, zq10, H', ⟨zq79⟩, ⟨(zq0 BK162.out)⟩, ⟨zq38⟩⟩
         ·rw [if_neg c19] at H
          have c19b0 : decide (t164 < ((rd_T58 l0_1 x9_1).f1)) = false := decide_eq_false c19
          clear c19
          have H' := Aside0.mk H
          clear H
          obtain ⟨hcz31_0, hcz31_1, hcz31_2, hfz31_0, hfz31_1, hfz31_2⟩ := bcs3 BK162.out
          try go_wp2_with (first | ((with_reducible refine gate_callee (f := 77) rfl ?_); refine goesL_ (some 27) rfl rfl Try.func77 zq22 rfl #[.agg #[.int .i64 a0_0, .slice A0_1 l0_1.length c0_1, .slice A0_2 l0_2.length c0_2], .slice (some ad163) l1.length c1, .int .i64 x9_1, .int .i64 a2, .int .u8 1] rfl zq4 ?_; (with_reducible refine (culletref07_how.calls k1 a0_0 _ _ l0_1 _ _ l0_2 _ _ l1 x9_1 a2 1 t164 _ ?side1 ?side2 ?side3 ?side4 ?side5 ?side6 A11.out).mono ?_); (case side1 => exact zq5); (case side2 => exact HC0_1.out); (case side3 => exact zq6); (case side4 => exact HC0_2.out); (case side5 => exact zq12); (case side6 => exact HC1.out); rintro e w32 ⟨rfl, hb⟩; refine ⟨_, rfl, ?_⟩; have n_ := as2 (blk_below (zq0 BK162.out) hb) (below_step zq38 hb); clear BK162 HB; obtain ⟨BK162, HB⟩ := n_; (try clear hb); (try clear hb2); (try clear hk); (try clear hi)))
          have n0_ := Aside0.mk (blk_drew BK162.out)
          have n1_ := Aside0.mk (below_drew1 HB.out)
          clear BK162
          clear HB
          have BK162 := n0_
          have HB := n1_
          clear n0_ n1_
          have p166 : 0 ≤ (x9_1 : Int) := of_decide_eq_true zq7
          have q166 : x9_1 < (l0_1.length : Int) := of_decide_eq_true zq7
          obtain ⟨ad166, e166, hx166_0, hx166_1⟩ := at_T58 HR0_1.out x9_1 p166 q166
          have hw166_1 := hx166_1
          have hw166_0 := hx166_0
          cases e166
          replace hx166_0 := hcx HB.out hx166_0
          replace hx166_1 := hcx HB.out hx166_1
          replace p166 := eq_true p166
          replace q166 := eq_true q166
          refine start_ (n := 14) (S := fun w' => w'.cell? ⟨gb162, 0, none⟩ = some (.int .i64 a0_0) ∧ w'.cell? ⟨gb162, 1, none⟩ = some (.slice (some ad166) l0_1.length c0_1) ∧ w'.cell? ⟨gb162, 2, none⟩ = some (.slice A0_2 l0_2.length c0_2) ∧ w'.cell? (ad166.add ((x9_1).toNat * 2)) = some (.string ((rd_T58 l0_1 x9_1).f0)) ∧ w'.cell? ⟨(ad166.add ((x9_1).toNat * 2)).block, (ad166.add ((x9_1).toNat * 2)).off + 1, none⟩ = some (.int .i64 ((rd_T58 l0_1 x9_1).f1))) (ds := []) #[false, false, false, false, false, false, false, false, false, false, false, false, false, false] zq22 rfl rfl ⟨(blk_cell BK162.out 0).trans rfl, (blk_cell BK162.out 1).trans rfl, (blk_cell BK162.out 2).trans rfl, ((HB.out.cell (World.block_lt_of_cell? w _ hw166_0)).trans hw166_0), ((HB.out.cell (World.block_lt_of_cell? w _ hw166_1)).trans hw166_1)⟩ (fun hHeld => ?_); refine with_tabW culletref07_judge.tab8 culletref07_judge.bits8 (fun HT_ HW_ => ?_)
          generalize w32.drew = w33 at BK162 HB hx166_0 hx166_1 hHeld ⊢
          refine pure_ (i := 0) (N := some 28) (v := ?_) (a' := ?_) #[true, false, false, false, false, false, false, false, false, false, false, false, false, false] rfl rfl (any_of HT_.out zq22) (fun _ _ _ h => h) (Or.inl ⟨zq58, ?_⟩) ?_ ?_
          rotate_left
          exact zpw
          rotate_left
          exact zpa
          refine pure_ (i := 2) (N := some 30) (v := ?_) (a' := ?_) #[true, false, true, false, false, false, false, false, false, false, false, false, false, false] rfl rfl (any_of HT_.out zq22) (fun _ _ _ h => h) (Or.inl ⟨zq58, ?_⟩) ?_ ?_
          rotate_left
          exact zpw
          rotate_left
          exact zpa
          refine pure_ (i := 3) (N := some 31) (v := ?_) (a' := ?_) #[true, false, true, true, false, false, false, false, false, false, false, false, false, false] rfl rfl (any_of HT_.out zq22) (fun _ _ _ h => h) (Or.inl ⟨zq58, ?_⟩) ?_ ?_
          rotate_left
          exact zpw
          rotate_left
          exact zpa
          refine pure_ (i := 4) (N := some 32) (v := ?_) (a' := ?_) #[true, false, true, true, true, false, false, false, false, false, false, false, false, false] rfl rfl (any_of HT_.out zq22) (fun _ _ _ h => h) (Or.inl ⟨zq58, ?_⟩) ?_ ?_
          rotate_left
          exact zpw
          rotate_left
          exact zpa
          refine pure_ (i := 7) (N := some 35) (v := ?_) (a' := ?_) #[true, false, true, true, true, false, false, true, false, false, false, false, false, false] rfl rfl (any_of HT_.out zq22) (fun _ _ _ h => h) (Or.inl ⟨zq58, ?_⟩) ?_ ?_
          rotate_left
          exact zpw
          rotate_left
          exact zpa
          refine pure_ (i := 9) (N := some 37) (v := ?_) (a' := ?_) #[true, false, true, true, true, false, false, true, false, true, false, false, false, false] rfl rfl (any_of HT_.out zq22) (fun _ _ _ h => h) (Or.inl ⟨zq58, ?_⟩) ?_ ?_
          rotate_left
          exact zpw
          rotate_left
          exact zpa
          refine take_ (i := 1) (N := some 29) (v := ?_) (a' := ?_) #[true, true, true, true, true, false, false, true, false, true, false, false, false, false] rfl rfl (take_ofW HT_.out HW_.out zq22) (fun _ _ _ h => h) (Or.inl ⟨zq58, ?_⟩) hHeld ?_ ?_
          rotate_left
          ·rintro w' ⟨s0, s1, s2, s3, s4⟩
           go_simp
           with_reducible rfl
          rotate_left
          exact zpa
          refine take_ (i := 8) (N := some 36) (v := ?_) (a' := ?_) #[true, true, true, true, true, false, false, true, true, true, false, false, false, false] rfl rfl (take_ofW HT_.out HW_.out zq22) (fun _ _ _ h => h) (Or.inl ⟨zq58, ?_⟩) hHeld ?_ ?_
          rotate_left
          ·rintro w' ⟨s0, s1, s2, s3, s4⟩
           go_simp
           with_reducible rfl
          rotate_left
          exact zpa
          refine pure_ (i := 10) (N := some 38) (v := ?_) (a' := ?_) #[true, true, true, true, true, false, false, true, true, true, true, false, false, false] rfl rfl (any_of HT_.out zq22) (fun _ _ _ h => h) (Or.inl ⟨zq58, ?_⟩) ?_ ?_
          rotate_left
          exact zpw
          rotate_left
          exact zpa
          refine pure_ (i := 11) (N := some 39) (v := ?_) (a' := ?_) #[true, true, true, true, true, false, false, true, true, true, true, true, false, false] rfl rfl (any_of HT_.out zq22) (fun _ _ _ h => h) (Or.inl ⟨zq58, ?_⟩) ?_ ?_
          rotate_left
          exact zpw
          rotate_left
          exact zpa
          refine take_ (i := 12) (N := some 40) (v := ?_) (a' := ?_) #[true, true, true, true, true, false, false, true, true, true, true, true, true, false] rfl rfl (take_ofW HT_.out HW_.out zq22) (fun _ _ _ h => h) (Or.inl ⟨zq58, ?_⟩) hHeld ?_ ?_
          rotate_left
          ·rintro w' ⟨s0, s1, s2, s3, s4⟩
           go_simp
           with_reducible rfl
          rotate_left
          exact zpa
          refine one_ (i := 5) (N := some 33) #[true, true, true, true, true, true, false, true, true, true, true, true, true, false] rfl rfl (one_of HT_.out zq22) zq56 (fun K hK => ?_)
          refine goes_ Try.func77 zq22 rfl #[.agg #[.int .i64 a0_0, .slice (some ad166) l0_1.length c0_1, .slice A0_2 l0_2.length c0_2], .slice (some ad163) l1.length c1, .int .i64 x9_1, .int .i64 a2, .int .u8 0] zq58 rfl rfl zq4 ?_
          with_reducible refine (culletref07_how.calls k1 a0_0 _ _ l0_1 _ _ l0_2 _ _ l1 x9_1 a2 0 t165 _ ?side1 ?side2 ?side3 ?side4 ?side5 ?side6 A12.out).mono ?_
          (case side1 => exact zq5)
          (case side2 => exact HC0_1.out)
          (case side3 => exact zq6)
          (case side4 => exact HC0_2.out)
          (case side5 => exact zq12)
          (case side6 => exact HC1.out)
          rintro e w34 ⟨rfl, hb⟩
          refine ⟨_, rfl, ?_⟩
          have n0_ := Aside0.mk (blk_below (zq0 BK162.out) hb)
          have n1_ := Aside0.mk (below_step zq38 hb)
          clear BK162
          clear HB
          have BK162 := n0_
          have HB := n1_
          clear n0_ n1_
          (try clear hb)
          (try clear hb2)
          (try clear hk)
          (try clear hi)
          refine hK.out _ _ ⟨(blk_cell BK162.out 0).trans rfl, (blk_cell BK162.out 1).trans rfl, (blk_cell BK162.out 2).trans rfl, ((HB.out.cell (World.block_lt_of_cell? w _ hw166_0)).trans hw166_0), ((HB.out.cell (World.block_lt_of_cell? w _ hw166_1)).trans hw166_1)⟩ (fun hHeld => ?_)
          clear hK K
          refine norm_ (a' := ?_) ?_ ?_
          rotate_left
          ·show Act.put _ (some 33) _ = _
           simp only [Act.put, List.setIfInBounds_toArray, List.set_cons_zero, List.set_cons_succ, i64_w, i32_w]
           rfl
          refine pure_ (i := 6) (N := some 34) (v := ?_) (a' := ?_) #[true, true, true, true, true, true, true, true, true, true, true, true, true, false] rfl rfl (any_of HT_.out zq22) (fun _ _ _ h => h) (Or.inl ⟨zq58, ?_⟩) ?_ ?_
          rotate_left
          exact zpw
          rotate_left
          exact zpa
          refine pure_ (i := 13) (N := some 41) (v := ?_) (a' := ?_) #[true, true, true, true, true, true, true, true, true, true, true, true, true, true] rfl rfl (any_of HT_.out zq22) (fun _ _ _ h => h) (Or.inl ⟨zq58, ?_⟩) ?_ ?_
          rotate_left
          exact zpw
          rotate_left
          exact zpa
          refine done_ (done_of HT_.out zq22) ?_
          obtain ⟨hcz35_0, hcz35_1, hcz35_2, hfz35_0, hfz35_1, hfz35_2⟩ := bcs3 BK162.out
          have p167 : 0 ≤ (x9_1 : Int) := of_decide_eq_true zq7
          have q167 : x9_1 < (l0_1.length : Int) := of_decide_eq_true zq7
          obtain ⟨ad167, e167, hx167_0, hx167_1⟩ := at_T58 HR0_1.out x9_1 p167 q167
          obtain rfl : ad166 = ad167 := (by injection e167)
          replace hx167_0 := hcx HB.out hx167_0
          replace hx167_1 := hcx HB.out hx167_1
          replace p167 := eq_true p167
          replace q167 := eq_true q167
          try go_wp2
          go_roundg k1
          case measure => have := HK1.out; omega
          case rel => exact ⟨(x8_1), (wrap64 (x9_1 + 1)), zq10, zq10, H', ⟨zq79⟩, ⟨(zq0 BK162.out)⟩, ⟨zq38⟩⟩
       ·rw [if_neg c13] at H
        exact absurd H zq63
      ·rw [if_neg c10] at H
       have c10b0 : decide (x9_1 < (l0_1.length : Int)) = false := decide_eq_false c10
       clear c10
       by_cases c36 : x8_1 ≥ 0
       ·rw [if_pos c36] at H
        have c36b0 : decide (0 ≤ x8_1) = true := decide_eq_true c36
        clear c36
        simp only [Option.some.injEq, Prod.mk.injEq] at H
        obtain ⟨rfl, rfl⟩ := H
        obtain ⟨hcz37_0, hcz37_1, hcz37_2, hfz37_0, hfz37_1, hfz37_2⟩ := bcs3 BK162.out
        go_wp2
        go_ret2
        exact ⟨zq9, zq38⟩
       ·rw [if_neg c36] at H
        have c36b0 : decide (0 ≤ x8_1) = false := decide_eq_false c36
        clear c36
        simp only [Option.some.injEq, Prod.mk.injEq] at H
        obtain ⟨rfl, rfl⟩ := H
        obtain ⟨hcz38_0, hcz38_1, hcz38_2, hfz38_0, hfz38_1, hfz38_2⟩ := bcs3 BK162.out
        go_wp2
        go_ret2
        exact ⟨zq9, zq38⟩
  ·rw [if_neg c5] at H
   exact absurd H zq63
 ·rw [if_neg c4] at H
  exact absurd H zq63
def culletref07_of.l0 : Nat → List (S45) → Int → List Int → Int → Int → List (S58) → List (S56) → Option (List Int)
 | 0, _, _, _, _, _, _, _ => none
 | k + 1, x1, x2, x7, x8, x169000, x169001, x169002 => if x8 < (x1.length : Int) then (if 0 ≤ x8 then (if ((rd_T45 x1 x8).f1) = 1 then ((culletref07_judge.f k x169000 x169001 x169002 x1 x8).bind fun bt170 => (if bt170.1 = x2 then (if x7.length < 17592186044416 then (culletref07_of.l0 k x1 x2 (x7 ++ [x8]) (wrap64 (x8 + 1)) x169000 x169001 x169002) else (none)) else (culletref07_of.l0 k x1 x2 x7 (wrap64 (x8 + 1)) x169000 x169001 x169002))) else (culletref07_of.l0 k x1 x2 x7 (wrap64 (x8 + 1)) x169000 x169001 x169002)) else (none)) else (some x7)
def culletref07_of.f (k : Nat) (a0_0 : Int) (l0_1 : List (S58)) (l0_2 : List (S56)) (l1 : List (S45)) (a2 : Int) : Option (List Int) := culletref07_of.l0 k l1 a2 ([] : List Int) 0 a0_0 l0_1 l0_2
set_option maxHeartbeats 8000000 in
set_option maxRecDepth 100000 in
theorem culletref07_of.calls (k : Nat) (a0_0 : Int) (A0_1 : Option Addr) (c0_1 : Nat) (l0_1 : List (S58)) (A0_2 : Option Addr) (c0_2 : Nat) (l0_2 : List (S56)) (A1 : Option Addr) (c1 : Nat) (l1 : List (S45)) (a2 : Int) (r : List Int) (w : World) (hr0_1 : Kd.C k58 w A0_1 l0_1.length l0_1) (hc0_1 : l0_1.length ≤ c0_1) (hr0_2 : Kd.C k56 w A0_2 l0_2.length l0_2) (hc0_2 : l0_2.length ≤ c0_2) (hr1 : Kd.C k45 w A1 l1.length l1) (hc1 : l1.length ≤ c1) (h : culletref07_of.f k a0_0 l0_1 l0_2 l1 a2 = some r) :
  Calls Try.prog 35 #[.agg #[.int .i64 a0_0, .slice A0_1 l0_1.length c0_1, .slice A0_2 l0_2.length c0_2], .slice A1 l1.length c1, .int .u8 a2] w fun e w' => ∃ v0_ : Value, e = .returned (v0_) ∧ Kd.R (Kd.int .i64) 3 w' w.heap.size (fun _ => True) v0_ r ∧ Below w.heap.size w w' := by
 have hu25 := Try.underlying25
 have HR0_1 := Aside0.mk hr0_1
 have HC0_1 := Aside0.mk hc0_1
 clear hr0_1 hc0_1
 have HR0_2 := Aside0.mk hr0_2
 have HC0_2 := Aside0.mk hc0_2
 clear hr0_2 hc0_2
 have HR1 := Aside0.mk hr1
 have HC1 := Aside0.mk hc1
 clear hr1 hc1
 have HB := Aside0.mk (Below.refl w.heap.size w)
 have H : (culletref07_of.l0 k l1 a2 ([] : List Int) 0 a0_0 l0_1 l0_2) = some r := h
 clear h
 have H' := Aside0.mk H
 clear H
 go_enter Try.func35, Try.ntmps35
 go_wp2_with (first | ((with_reducible refine gate_dst (N := 3) rfl ?_); refine box_event ?hg (N := 3) ?hd (cs := #[.int .i64 a0_0, .slice A0_1 l0_1.length c0_1, .slice A0_2 l0_2.length c0_2]) (t := 25) ?hr ?_; (case hd => rfl); (case hg => rfl); (case hr => exact zq11); intro gb168 hg w4 hbox hb; have n_ := as4 (below_step zq3 hb) (hbox) ((zq31 : w.heap.size ≤ gb168)) ((zq31 : w.heap.size ≤ gb168)); clear HB hb hbox hg; obtain ⟨HB, BK168, GW168, GE168⟩ := n_))
 go_loopg [7, 8] k (fun kq v7 v8 w' => ∃ (x7_1 : List Int) (x8_1 : Int), v8 = .int .i64 x8_1 ∧ Aside0 (culletref07_of.l0 kq l1 a2 x7_1 x8_1 a0_0 l0_1 l0_2 = some r) ∧ Aside0 (kq ≤ k) ∧ Aside0 (Kd.R (Kd.int .i64) 3 w' w.heap.size (fun _ => True) v7 x7_1) ∧ Aside0 (w'.heap[gb168]? = some (.cells #[.int .i64 a0_0, (.slice A0_1 l0_1.length c0_1), (.slice A0_2 l0_2.length c0_2)] 25 (0, 0))) ∧ Aside0 (Below w.heap.size w w'))
 case atStart => exact ⟨(([] : List Int)), (0), zq10, H', ⟨Nat.le_refl _⟩, ⟨zq66⟩, ⟨(zq0 BK168.out)⟩, ⟨zq45⟩⟩
 case round =>
  clear H'
  try clear c1
  try clear p2
  try clear c3
  obtain ⟨x7_1, x8_1, rfl, HA, HK1, HO_7, BK168, HB⟩ := hrel
  cases gk with
  | zero => exact absurd HA.out (by simp [culletref07_of.l0])
  | succ k1 =>
   have H := HA.out
   clear HA
   simp only [culletref07_of.l0] at H
   by_cases c5 : x8_1 < (l1.length : Int)
   ·rw [if_pos c5] at H
    have c5b0 : decide (x8_1 < (l1.length : Int)) = true := decide_eq_true c5
    clear c5
    by_cases c6 : 0 ≤ x8_1
    ·rw [if_pos c6] at H
     have c6b0 : decide (0 ≤ x8_1) = true := decide_eq_true c6
     clear c6
     by_cases c7 : ((rd_T45 l1 x8_1).f1) = 1
     ·rw [if_pos c7] at H
      have c7b0 : (((rd_T45 l1 x8_1).f1) == 1) = true := beq_iff_eq.mpr c7
      have c7b1 : (((rd_T45 l1 x8_1).f1) != 1) = false := bne_eq_false_iff_eq.mpr c7
      clear c7
      replace H := Option.bind_eq_some_iff.mp H
      obtain ⟨⟨t170, t171⟩, A80, H⟩ := H
      replace H : (if t170 = a2 then (if x7_1.length < 17592186044416 then (culletref07_of.l0 k1 l1 a2 (x7_1 ++ [x8_1]) (wrap64 (x8_1 + 1)) a0_0 l0_1 l0_2) else (none)) else (culletref07_of.l0 k1 l1 a2 x7_1 (wrap64 (x8_1 + 1)) a0_0 l0_1 l0_2)) = some r := H
      have A8 := Aside0.mk A80
      clear A80
      by_cases c9 : t170 = a2
      ·rw [if_pos c9] at H
       have c9b0 : (t170 == a2) = true := beq_iff_eq.mpr c9
       have c9b1 : (t170 != a2) = false := bne_eq_false_iff_eq.mpr c9
       clear c9
       by_cases c10 : x7_1.length < 17592186044416
       ·rw [if_pos c10] at H
        have LMc10 := Aside0.mk c10
        clear c10
        obtain ⟨y172, hy172⟩ : ∃ y_ : List Int, y_ = (x7_1 ++ [x8_1]) := ⟨_, rfl⟩
        replace H : (culletref07_of.l0 k1 l1 a2 y172 (wrap64 (x8_1 + 1)) a0_0 l0_1 l0_2) = some r := by first | (rw [hy172]; with_reducible exact H) | (have H2_ := (Option.bind_some _ _).symm.trans H; rw [hy172]; with_reducible exact H2_) | (have H2_ := (Option.bind_some _ _).symm.trans H; with_reducible exact H2_) | with_reducible exact H | (rw [hy172]; exact H) | exact H
        have Ny172 := Aside0.mk hy172
        clear hy172
        have H' := Aside0.mk H
        clear H
        have p169 : 0 ≤ (x8_1 : Int) := of_decide_eq_true zq7
        have q169 : x8_1 < (l1.length : Int) := of_decide_eq_true zq7
        obtain ⟨ad169, e169, hx169_0, hx169_1, hx169_2, hx169_3, hx169_4, hx169_5, hx169_6⟩ := at_T45 HR1.out x8_1 p169 q169
        cases e169
        replace hx169_0 := hcx HB.out hx169_0
        replace hx169_1 := hcx HB.out hx169_1
        replace hx169_2 := hcx HB.out hx169_2
        replace hx169_3 := hcx HB.out hx169_3
        replace hx169_4 := hcx HB.out hx169_4
        replace hx169_5 := hcx HB.out hx169_5
        replace hx169_6 := hcx HB.out hx169_6
        replace p169 := eq_true p169
        replace q169 := eq_true q169
        obtain ⟨hcz11_0, hcz11_1, hcz11_2, hfz11_0, hfz11_1, hfz11_2⟩ := bcs3 BK168.out
        go_wp2_with (first | ((with_reducible refine gate_callee (f := 58) rfl ?_); refine goesL_ (some 27) rfl rfl Try.func58 zq22 rfl #[.agg #[.int .i64 a0_0, .slice A0_1 l0_1.length c0_1, .slice A0_2 l0_2.length c0_2], .slice (some ad169) l1.length c1, .int .i64 x8_1] rfl zq4 ?_; (with_reducible refine (culletref07_judge.calls k1 a0_0 _ _ l0_1 _ _ l0_2 _ _ l1 x8_1 t170 t171 _ ?side1 ?side2 ?side3 ?side4 ?side5 ?side6 A8.out).mono ?_); (case side1 => exact zq5); (case side2 => exact HC0_1.out); (case side3 => exact zq6); (case side4 => exact HC0_2.out); (case side5 => exact zq12); (case side6 => exact HC1.out); rintro e w12 ⟨rfl, hb⟩; refine ⟨_, rfl, ?_⟩; have n_ := as3 (Kd.R_below (zq1 HO_7.out) hb) (blk_below (zq0 BK168.out) hb) (below_step zq45 hb); clear HO_7 BK168 HB; obtain ⟨HO_7, BK168, HB⟩ := n_; (try clear hb); (try clear hb2); (try clear hk); (try clear hi)) | ((with_reducible refine gate_builtin (b := .append) (xs := #[.tmp 33, .tmp 35]) rfl ?_); at_builtin; refine Kd.R_append (Kd.int .i64) (w0 := w) w.heap.size rfl (.tmp 33) (.tmp 35) 29 3 (.int .i64 0) 8 rfl Try.underlying29 info3 rfl zq56 zq17 u7 x7_1 x8_1 [.int .i64 x8_1] (fun _ => True) (fun _ => False) rfl rfl ?aP (fun _ hk => hk.elim) ?aF ?aO ?aB ?aS ?aL ?_; (case aP => exact rfl); (case aB => exact zq45); (case aF => exact (fun _ _ => trivial)); (case aO => exact (zq1 HO_7.out)); (case aS => exact (below_size zq45)); (case aL => have := LMc10.out; omega); intro v173 w13 ho hb hg hat; rw [← Ny172.out] at ho; have n_ := as3 (blk_grown (zq0 BK168.out) hg (Kd.R_ne HO_7.out BK168.out zq56)) (hb) (ho); clear BK168 HB HO_7; obtain ⟨BK168, HB, HO174⟩ := n_; clear ho hb hg hat))
        go_roundg k1
        case measure => have := HK1.out; omega
        case rel => exact ⟨(y172), (wrap64 (x8_1 + 1)), zq10, H', ⟨zq79⟩, ⟨(zq1 HO174.out)⟩, ⟨(zq0 BK168.out)⟩, ⟨zq45⟩⟩
       ·rw [if_neg c10] at H
        exact absurd H zq63
      ·rw [if_neg c9] at H
       have c9b0 : (t170 == a2) = false := beq_eq_false_iff_ne.mpr c9
       have c9b1 : (t170 != a2) = true := bne_iff_ne.mpr c9
       have H' := Aside0.mk H
       clear H
       have p169 : 0 ≤ (x8_1 : Int) := of_decide_eq_true zq7
       have q169 : x8_1 < (l1.length : Int) := of_decide_eq_true zq7
       obtain ⟨ad169, e169, hx169_0, hx169_1, hx169_2, hx169_3, hx169_4, hx169_5, hx169_6⟩ := at_T45 HR1.out x8_1 p169 q169
       cases e169
       replace hx169_0 := hcx HB.out hx169_0
       replace hx169_1 := hcx HB.out hx169_1
       replace hx169_2 := hcx HB.out hx169_2
       replace hx169_3 := hcx HB.out hx169_3
       replace hx169_4 := hcx HB.out hx169_4
       replace hx169_5 := hcx HB.out hx169_5
       replace hx169_6 := hcx HB.out hx169_6
       replace p169 := eq_true p169
       replace q169 := eq_true q169
       obtain ⟨hcz14_0, hcz14_1, hcz14_2, hfz14_0, hfz14_1, hfz14_2⟩ := bcs3 BK168.out
       go_wp2_with (first | ((with_reducible refine gate_callee (f := 58) rfl ?_); refine goesL_ (some 27) rfl rfl Try.func58 zq22 rfl #[.agg #[.int .i64 a0_0, .slice A0_1 l0_1.length c0_1, .slice A0_2 l0_2.length c0_2], .slice (some ad169) l1.length c1, .int .i64 x8_1] rfl zq4 ?_; (with_reducible refine (culletref07_judge.calls k1 a0_0 _ _ l0_1 _ _ l0_2 _ _ l1 x8_1 t170 t171 _ ?side1 ?side2 ?side3 ?side4 ?side5 ?side6 A8.out).mono ?_); (case side1 => exact zq5); (case side2 => exact HC0_1.out); (case side3 => exact zq6); (case side4 => exact HC0_2.out); (case side5 => exact zq12); (case side6 => exact HC1.out); rintro e w15 ⟨rfl, hb⟩; refine ⟨_, rfl, ?_⟩; have n_ := as3 (Kd.R_below (zq1 HO_7.out) hb) (blk_below (zq0 BK168.out) hb) (below_step zq45 hb); clear HO_7 BK168 HB; obtain ⟨HO_7, BK168, HB⟩ := n_; (try clear hb); (try clear hb2); (try clear hk); (try clear hi)))
       go_roundg k1
       case measure => have := HK1.out; omega
       case rel => exact ⟨(x7_1), (wrap64 (x8_1 + 1)), zq10, H', ⟨zq79⟩, ⟨(zq1 HO_7.out)⟩, ⟨(zq0 BK168.out)⟩, ⟨zq45⟩⟩
     ·rw [if_neg c7] at H
      have c7b0 : (((rd_T45 l1 x8_1).f1) == 1) = false := beq_eq_false_iff_ne.mpr c7
      have c7b1 : (((rd_T45 l1 x8_1).f1) != 1) = true := bne_iff_ne.mpr c7
      have H' := Aside0.mk H
      clear H
      have p169 : 0 ≤ (x8_1 : Int) := of_decide_eq_true zq7
      have q169 : x8_1 < (l1.length : Int) := of_decide_eq_true zq7
      obtain ⟨ad169, e169, hx169_0, hx169_1, hx169_2, hx169_3, hx169_4, hx169_5, hx169_6⟩ := at_T45 HR1.out x8_1 p169 q169
      cases e169
      replace hx169_0 := hcx HB.out hx169_0
      replace hx169_1 := hcx HB.out hx169_1
      replace hx169_2 := hcx HB.out hx169_2
      replace hx169_3 := hcx HB.out hx169_3
      replace hx169_4 := hcx HB.out hx169_4
      replace hx169_5 := hcx HB.out hx169_5
      replace hx169_6 := hcx HB.out hx169_6
      replace p169 := eq_true p169
      replace q169 := eq_true q169
      go_wp2
      go_roundg k1
      case measure => have := HK1.out; omega
      case rel => exact ⟨(x7_1), (wrap64 (x8_1 + 1)), zq10, H', ⟨zq79⟩, ⟨(zq1 HO_7.out)⟩, ⟨(zq0 BK168.out)⟩, ⟨zq45⟩⟩
    ·rw [if_neg c6] at H
     exact absurd H zq63
   ·rw [if_neg c5] at H
    have c5b0 : decide (x8_1 < (l1.length : Int)) = false := decide_eq_false c5
    clear c5
    obtain rfl := Option.some.inj H
    go_wp2
    go_ret
    exact ⟨_, zq9, (zq1 HO_7.out), zq45⟩
def culletref07_Blocked.f (k : Nat) (a0_0 : Int) (l0_1 : List (S58)) (l0_2 : List (S56)) (l1 : List (S45)) : Option (List Int × Int) := (culletref07_CheckLog.f k a0_0 l0_1 l0_2 l1).bind fun t176 => (if t176 = 0 then ((culletref07_of.f k a0_0 l0_1 l0_2 l1 3).bind fun t177 => (some (t177, 0))) else (some (([] : List Int), t176)))
set_option maxHeartbeats 8000000 in
set_option maxRecDepth 100000 in
theorem culletref07_Blocked.calls (k : Nat) (a0_0 : Int) (A0_1 : Option Addr) (c0_1 : Nat) (l0_1 : List (S58)) (A0_2 : Option Addr) (c0_2 : Nat) (l0_2 : List (S56)) (A1 : Option Addr) (c1 : Nat) (l1 : List (S45)) (r1 : List Int) (r2 : Int) (w : World) (hr0_1 : Kd.C k58 w A0_1 l0_1.length l0_1) (hc0_1 : l0_1.length ≤ c0_1) (hr0_2 : Kd.C k56 w A0_2 l0_2.length l0_2) (hc0_2 : l0_2.length ≤ c0_2) (hr1 : Kd.C k45 w A1 l1.length l1) (hc1 : l1.length ≤ c1) (h : culletref07_Blocked.f k a0_0 l0_1 l0_2 l1 = some (r1, r2)) :
  Calls Try.prog 13 #[.agg #[.int .i64 a0_0, .slice A0_1 l0_1.length c0_1, .slice A0_2 l0_2.length c0_2], .slice A1 l1.length c1] w fun e w' => ∃ v0_ : Value, e = .returned (.tuple #[v0_, .int .i64 r2]) ∧ Kd.R (Kd.int .i64) 3 w' w.heap.size (fun _ => True) v0_ r1 ∧ Below w.heap.size w w' := by
 have hu25 := Try.underlying25
 have HR0_1 := Aside0.mk hr0_1
 have HC0_1 := Aside0.mk hc0_1
 clear hr0_1 hc0_1
 have HR0_2 := Aside0.mk hr0_2
 have HC0_2 := Aside0.mk hc0_2
 clear hr0_2 hc0_2
 have HR1 := Aside0.mk hr1
 have HC1 := Aside0.mk hc1
 clear hr1 hc1
 have HB := Aside0.mk (Below.refl w.heap.size w)
 have H : ((culletref07_CheckLog.f k a0_0 l0_1 l0_2 l1).bind fun t176 => (if t176 = 0 then ((culletref07_of.f k a0_0 l0_1 l0_2 l1 3).bind fun t177 => (some (t177, 0))) else (some (([] : List Int), t176)))) = some (r1, r2) := h
 clear h
 replace H := Option.bind_eq_some_iff.mp H
 obtain ⟨t176, A30, H⟩ := H
 replace H : (if t176 = 0 then ((culletref07_of.f k a0_0 l0_1 l0_2 l1 3).bind fun t177 => (some (t177, 0))) else (some (([] : List Int), t176))) = some (r1, r2) := H
 have A3 := Aside0.mk A30
 clear A30
 by_cases c4 : t176 = 0
 ·rw [if_pos c4] at H
  have c4b0 : (t176 == 0) = true := beq_iff_eq.mpr c4
  have c4b1 : (t176 != 0) = false := bne_eq_false_iff_eq.mpr c4
  clear c4
  replace H := Option.bind_eq_some_iff.mp H
  obtain ⟨t177, A50, H⟩ := H
  replace H : (some (t177, 0)) = some (r1, r2) := H
  have A5 := Aside0.mk A50
  clear A50
  simp only [Option.some.injEq, Prod.mk.injEq] at H
  obtain ⟨rfl, rfl⟩ := H
  go_enter Try.func13, Try.ntmps13
  go_wp2_with (first | ((with_reducible refine gate_dst (N := 2) rfl ?_); refine box_event ?hg (N := 2) ?hd (cs := #[.int .i64 a0_0, .slice A0_1 l0_1.length c0_1, .slice A0_2 l0_2.length c0_2]) (t := 25) ?hr ?_; (case hd => rfl); (case hg => rfl); (case hr => exact zq11); intro gb175 hg w6 hbox hb; have n_ := as4 (below_step zq3 hb) (hbox) ((zq31 : w.heap.size ≤ gb175)) ((zq31 : w.heap.size ≤ gb175)); clear HB hb hbox hg; obtain ⟨HB, BK175, GW175, GE175⟩ := n_; obtain ⟨hcz7_0, hcz7_1, hcz7_2, hfz7_0, hfz7_1, hfz7_2⟩ := bcs3 BK175.out) | ((with_reducible refine gate_callee (f := 34) rfl ?_); refine goesL_ (some 9) rfl rfl Try.func34 zq22 rfl #[.agg #[.int .i64 a0_0, .slice A0_1 l0_1.length c0_1, .slice A0_2 l0_2.length c0_2], .slice A1 l1.length c1] rfl zq4 ?_; (with_reducible refine (culletref07_CheckLog.calls k a0_0 _ _ l0_1 _ _ l0_2 _ _ l1 t176 _ ?side1 ?side2 ?side3 ?side4 ?side5 ?side6 A3.out).mono ?_); (case side1 => exact zq5); (case side2 => exact HC0_1.out); (case side3 => exact zq6); (case side4 => exact HC0_2.out); (case side5 => exact zq12); (case side6 => exact HC1.out); rintro e w8 ⟨rfl, hb⟩; refine ⟨_, rfl, ?_⟩; have n_ := as2 (blk_below (zq0 BK175.out) hb) (below_step zq53 hb); clear BK175 HB; obtain ⟨BK175, HB⟩ := n_; (try clear hb); (try clear hb2); (try clear hk); (try clear hi); obtain ⟨hcz9_0, hcz9_1, hcz9_2, hfz9_0, hfz9_1, hfz9_2⟩ := bcs3 BK175.out) | ((with_reducible refine gate_callee (f := 35) rfl ?_); refine goesL_ (some 15) rfl rfl Try.func35 zq22 rfl #[.agg #[.int .i64 a0_0, .slice A0_1 l0_1.length c0_1, .slice A0_2 l0_2.length c0_2], .slice A1 l1.length c1, .int .u8 3] rfl zq4 ?_; (with_reducible refine (culletref07_of.calls k a0_0 _ _ l0_1 _ _ l0_2 _ _ l1 3 t177 _ ?side1 ?side2 ?side3 ?side4 ?side5 ?side6 A5.out).mono ?_); (case side1 => exact zq5); (case side2 => exact HC0_1.out); (case side3 => exact zq6); (case side4 => exact HC0_2.out); (case side5 => exact zq12); (case side6 => exact HC1.out); rintro e w10 ⟨v178, rfl, ho0, hb⟩; refine ⟨_, rfl, ?_⟩; have n_ := as3 (Kd.R_lower ho0 (below_size zq53)) (blk_below (zq0 BK175.out) hb) (below_step zq53 hb); clear BK175 HB; obtain ⟨HO179, BK175, HB⟩ := n_; (try clear hb); (try clear hb2); (try clear hk); (try clear hi); (try clear ho0)))
  go_ret2
  exact ⟨_, zq9, (zq1 HO179.out), zq53⟩
 ·rw [if_neg c4] at H
  have c4b0 : (t176 == 0) = false := beq_eq_false_iff_ne.mpr c4
  have c4b1 : (t176 != 0) = true := bne_iff_ne.mpr c4
  simp only [Option.some.injEq, Prod.mk.injEq] at H
  obtain ⟨rfl, rfl⟩ := H
  go_enter Try.func13, Try.ntmps13
  go_wp2_with (first | ((with_reducible refine gate_dst (N := 2) rfl ?_); refine box_event ?hg (N := 2) ?hd (cs := #[.int .i64 a0_0, .slice A0_1 l0_1.length c0_1, .slice A0_2 l0_2.length c0_2]) (t := 25) ?hr ?_; (case hd => rfl); (case hg => rfl); (case hr => exact zq11); intro gb175 hg w11 hbox hb; have n_ := as4 (below_step zq3 hb) (hbox) ((zq31 : w.heap.size ≤ gb175)) ((zq31 : w.heap.size ≤ gb175)); clear HB hb hbox hg; obtain ⟨HB, BK175, GW175, GE175⟩ := n_; obtain ⟨hcz12_0, hcz12_1, hcz12_2, hfz12_0, hfz12_1, hfz12_2⟩ := bcs3 BK175.out) | ((with_reducible refine gate_callee (f := 34) rfl ?_); refine goesL_ (some 9) rfl rfl Try.func34 zq22 rfl #[.agg #[.int .i64 a0_0, .slice A0_1 l0_1.length c0_1, .slice A0_2 l0_2.length c0_2], .slice A1 l1.length c1] rfl zq4 ?_; (with_reducible refine (culletref07_CheckLog.calls k a0_0 _ _ l0_1 _ _ l0_2 _ _ l1 t176 _ ?side1 ?side2 ?side3 ?side4 ?side5 ?side6 A3.out).mono ?_); (case side1 => exact zq5); (case side2 => exact HC0_1.out); (case side3 => exact zq6); (case side4 => exact HC0_2.out); (case side5 => exact zq12); (case side6 => exact HC1.out); rintro e w13 ⟨rfl, hb⟩; refine ⟨_, rfl, ?_⟩; have n_ := as2 (blk_below (zq0 BK175.out) hb) (below_step zq53 hb); clear BK175 HB; obtain ⟨BK175, HB⟩ := n_; (try clear hb); (try clear hb2); (try clear hk); (try clear hi)))
  go_ret2
  exact ⟨_, zq9, zq66, zq53⟩
def culletlaw07_ints.l0 : Nat → List Int → List Int → Int → Option (Bool)
 | 0, _, _, _ => none
 | k + 1, x0, x1, x5 => if x5 < (x0.length : Int) then (if 0 ≤ x5 then (if x5 < (x1.length : Int) then (if (rd x0 x5) = (rd x1 x5) then (culletlaw07_ints.l0 k x0 x1 (wrap64 (x5 + 1))) else (some false)) else (none)) else (none)) else (some true)
def culletlaw07_ints.f (k : Nat) (l0 : List Int) (l1 : List Int) : Option (Bool) := if (l0.length : Int) = (l1.length : Int) then (culletlaw07_ints.l0 k l0 l1 0) else (some false)
set_option maxHeartbeats 8000000 in
set_option maxRecDepth 100000 in
theorem culletlaw07_ints.calls (k : Nat) (A0 : Option Addr) (c0 : Nat) (l0 : List Int) (A1 : Option Addr) (c1 : Nat) (l1 : List Int) (r : Bool) (w : World) (hr0 : Kd.C (Kd.int .i64) w A0 l0.length l0) (hc0 : l0.length ≤ c0) (hr1 : Kd.C (Kd.int .i64) w A1 l1.length l1) (hc1 : l1.length ≤ c1) (h : culletlaw07_ints.f k l0 l1 = some r) :
  Calls Try.prog 14 #[.slice A0 l0.length c0, .slice A1 l1.length c1] w fun e w' => e = .returned (.bool r) ∧ Drawn0 w w' := by
 have HR0 := Aside0.mk hr0
 have HC0 := Aside0.mk hc0
 clear hr0 hc0
 have HR1 := Aside0.mk hr1
 have HC1 := Aside0.mk hc1
 clear hr1 hc1
 have H : (if (l0.length : Int) = (l1.length : Int) then (culletlaw07_ints.l0 k l0 l1 0) else (some false)) = some r := h
 clear h
 by_cases c3 : (l0.length : Int) = (l1.length : Int)
 ·rw [if_pos c3] at H
  have c3b0 : ((l0.length : Int) == (l1.length : Int)) = true := beq_iff_eq.mpr c3
  have c3b1 : ((l0.length : Int) != (l1.length : Int)) = false := bne_eq_false_iff_eq.mpr c3
  have c3b2 : (l0.length == l1.length) = true := by first | simpa using c3 | (simp at c3 ⊢; omega)
  clear c3
  have H' := Aside0.mk H
  clear H
  go_enter Try.func14, Try.ntmps14
  go_wp2
  repeat (go_quiet (fail); try go_wp2)
  go_loopg [5] k (fun kq v5 w' => ∃ (x5_1 : Int), v5 = .int .i64 x5_1 ∧ Aside0 (culletlaw07_ints.l0 kq l0 l1 x5_1 = some r) ∧ Aside0 (kq ≤ k) ∧ Drawn0 w w')
  case atStart => exact ⟨(0), zq10, H', ⟨Nat.le_refl _⟩, zq32⟩
  case round =>
   clear H'
   try clear c1
   try clear p2
   try clear c3
   try clear c3b0
   try clear c3b1
   try clear c3b2
   obtain ⟨x5_1, rfl, HA, HK1, ⟨m1, rfl⟩⟩ := hrel
   cases gk with
   | zero => exact absurd HA.out (by simp [culletlaw07_ints.l0])
   | succ k1 =>
    have H := HA.out
    clear HA
    simp only [culletlaw07_ints.l0] at H
    by_cases c4 : x5_1 < (l0.length : Int)
    ·rw [if_pos c4] at H
     have c4b0 : decide (x5_1 < (l0.length : Int)) = true := decide_eq_true c4
     clear c4
     by_cases c5 : 0 ≤ x5_1
     ·rw [if_pos c5] at H
      have c5b0 : decide (0 ≤ x5_1) = true := decide_eq_true c5
      clear c5
      by_cases c6 : x5_1 < (l1.length : Int)
      ·rw [if_pos c6] at H
       have c6b0 : decide (x5_1 < (l1.length : Int)) = true := decide_eq_true c6
       clear c6
       by_cases c7 : (rd l0 x5_1) = (rd l1 x5_1)
       ·rw [if_pos c7] at H
        have c7b0 : ((rd l0 x5_1) == (rd l1 x5_1)) = true := beq_iff_eq.mpr c7
        have c7b1 : ((rd l0 x5_1) != (rd l1 x5_1)) = false := bne_eq_false_iff_eq.mpr c7
        clear c7
        have H' := Aside0.mk H
        clear H
        have p180 : 0 ≤ (x5_1 : Int) := of_decide_eq_true zq7
        have q180 : x5_1 < (l0.length : Int) := of_decide_eq_true zq7
        obtain ⟨ad180, e180, hx180_0⟩ := Kd.at_int HR0.out x5_1 p180 q180
        cases e180
        replace p180 := eq_true p180
        replace q180 := eq_true q180
        have p181 : 0 ≤ (x5_1 : Int) := of_decide_eq_true zq7
        have q181 : x5_1 < (l1.length : Int) := of_decide_eq_true zq7
        obtain ⟨ad181, e181, hx181_0⟩ := Kd.at_int HR1.out x5_1 p181 q181
        cases e181
        replace p181 := eq_true p181
        replace q181 := eq_true q181
        go_wp2
        repeat (go_quiet (fail); try go_wp2)
        go_roundg k1
        case measure => have := HK1.out; omega
        case rel => exact ⟨(wrap64 (x5_1 + 1)), zq10, H', ⟨zq79⟩, zq32⟩
       ·rw [if_neg c7] at H
        have c7b0 : ((rd l0 x5_1) == (rd l1 x5_1)) = false := beq_eq_false_iff_ne.mpr c7
        have c7b1 : ((rd l0 x5_1) != (rd l1 x5_1)) = true := bne_iff_ne.mpr c7
        obtain rfl := Option.some.inj H
        have p180 : 0 ≤ (x5_1 : Int) := of_decide_eq_true zq7
        have q180 : x5_1 < (l0.length : Int) := of_decide_eq_true zq7
        obtain ⟨ad180, e180, hx180_0⟩ := Kd.at_int HR0.out x5_1 p180 q180
        cases e180
        replace p180 := eq_true p180
        replace q180 := eq_true q180
        have p181 : 0 ≤ (x5_1 : Int) := of_decide_eq_true zq7
        have q181 : x5_1 < (l1.length : Int) := of_decide_eq_true zq7
        obtain ⟨ad181, e181, hx181_0⟩ := Kd.at_int HR1.out x5_1 p181 q181
        cases e181
        replace p181 := eq_true p181
        replace q181 := eq_true q181
        go_wp2
        repeat (go_quiet (fail); try go_wp2)
        go_ret
        exact ⟨zq10, zq32⟩
      ·rw [if_neg c6] at H
       exact absurd H zq63
     ·rw [if_neg c5] at H
      exact absurd H zq63
    ·rw [if_neg c4] at H
     have c4b0 : decide (x5_1 < (l0.length : Int)) = false := decide_eq_false c4
     clear c4
     obtain rfl := Option.some.inj H
     go_wp2
     repeat (go_quiet (fail); try go_wp2)
     go_ret
     exact ⟨zq10, zq32⟩
 ·rw [if_neg c3] at H
  have c3b0 : ((l0.length : Int) == (l1.length : Int)) = false := beq_eq_false_iff_ne.mpr c3
  have c3b1 : ((l0.length : Int) != (l1.length : Int)) = true := bne_iff_ne.mpr c3
  have c3b2 : (l0.length == l1.length) = false := by first | simpa using c3 | (simp at c3 ⊢; omega)
  obtain rfl := Option.some.inj H
  go_enter Try.func14, Try.ntmps14
  go_wp2
  repeat (go_quiet (fail); try go_wp2)
  go_ret
  exact ⟨zq10, zq32⟩
def culletref04_Divisor.l0 : Nat → Int → Int → Option (Int)
 | 0, _, _ => none
 | k + 1, x0, x1 => if x1 = 0 then (some x0) else (culletref04_Divisor.l0 k x1 (Int.tmod x0 x1))
def culletref04_Divisor.f (k : Nat) (a0 : Int) (a1 : Int) : Option (Int) := culletref04_Divisor.l0 k a0 a1
set_option maxHeartbeats 8000000 in
set_option maxRecDepth 100000 in
theorem culletref04_Divisor.calls (k : Nat) (a0 : Int) (a1 : Int) (r : Int) (w : World) (h : culletref04_Divisor.f k a0 a1 = some r) :
  Calls Try.prog 59 #[.int .i64 a0, .int .i64 a1] w fun e w' => e = .returned (.int .i64 r) ∧ Drawn0 w w' := by
 have H : (culletref04_Divisor.l0 k a0 a1) = some r := h
 clear h
 have H' := Aside0.mk H
 clear H
 go_enter Try.func59, Try.ntmps59
 go_wp2
 repeat (go_quiet (fail); try go_wp2)
 go_loopg [0, 1] k (fun kq v0 v1 w' => ∃ (x0_1 : Int) (x1_1 : Int), v0 = .int .i64 x0_1 ∧ v1 = .int .i64 x1_1 ∧ Aside0 (culletref04_Divisor.l0 kq x0_1 x1_1 = some r) ∧ Aside0 (kq ≤ k) ∧ Drawn0 w w')
 case atStart => exact ⟨(a0), (a1), zq10, zq10, H', ⟨Nat.le_refl _⟩, zq32⟩
 case round =>
  clear H'
  try clear p2
  obtain ⟨x0_1, x1_1, rfl, rfl, HA, HK1, ⟨m1, rfl⟩⟩ := hrel
  cases gk with
  | zero => exact absurd HA.out (by simp [culletref04_Divisor.l0])
  | succ k1 =>
   have H := HA.out
   clear HA
   simp only [culletref04_Divisor.l0] at H
   by_cases c3 : x1_1 = 0
   ·rw [if_pos c3] at H
    have c3b0 : (x1_1 == 0) = true := beq_iff_eq.mpr c3
    have c3b1 : (x1_1 != 0) = false := bne_eq_false_iff_eq.mpr c3
    clear c3
    obtain rfl := Option.some.inj H
    go_wp2
    repeat (go_quiet (fail); try go_wp2)
    go_ret
    exact ⟨zq10, zq32⟩
   ·rw [if_neg c3] at H
    have c3b0 : (x1_1 == 0) = false := beq_eq_false_iff_ne.mpr c3
    have c3b1 : (x1_1 != 0) = true := bne_iff_ne.mpr c3
    have H' := Aside0.mk H
    clear H
    go_wp2
    repeat (go_quiet (fail); try go_wp2)
    go_roundg k1
    case measure => have := HK1.out; omega
    case rel => exact ⟨(x1_1), (Int.tmod x0_1 x1_1), zq10, zq10, H', ⟨zq79⟩, zq32⟩
def culletref04_Made.f (k : Nat) (a0 : Int) (a1 : Int) : Option (Int × Int) := (culletref04_Divisor.f k (mx a0 (wrap64 (-a0))) a1).bind fun t183 => (if t183 = 0 then (none) else (some (wrap64 (Int.tdiv a0 t183), wrap64 (Int.tdiv a1 t183))))
def culletref04_Made.T2 : Bool × List (List Nat × List Nat) := (true, [([], []), ([], []), ([0, 1], [0, 1]), ([], []), ([], []), ([3, 4], [3, 4]), ([2, 5], [2, 5]), ([6, 0, 1, 2, 3, 4, 5, 6], [6])])
def culletref04_Made.B2 : List Nat := [0, 0, 3, 0, 0, 24, 63, 127]
theorem culletref04_Made.tab2 : rtab .any (opsOf Try.f28 2) = culletref04_Made.T2 := by kernel_rfl
theorem culletref04_Made.bits2 : waitsOk culletref04_Made.T2.2 culletref04_Made.B2 = true := by kernel_rfl
set_option maxHeartbeats 8000000 in
set_option maxRecDepth 100000 in
theorem culletref04_Made.calls (k : Nat) (a0 : Int) (a1 : Int) (r1 : Int) (r2 : Int) (w : World) (h : culletref04_Made.f k a0 a1 = some (r1, r2)) :
  Calls Try.prog 28 #[.int .i64 a0, .int .i64 a1] w fun e w' => e = .returned (.agg #[.int .i64 r1, .int .i64 r2]) ∧ Below w.heap.size w w' := by
 have hu35 := Try.underlying35
 have HB := Aside0.mk (Below.refl w.heap.size w)
 have H : ((culletref04_Divisor.f k (mx a0 (wrap64 (-a0))) a1).bind fun t183 => (if t183 = 0 then (none) else (some (wrap64 (Int.tdiv a0 t183), wrap64 (Int.tdiv a1 t183))))) = some (r1, r2) := h
 clear h
 obtain ⟨ji3, hji3⟩ : ∃ j_ : Int, (mx a0 (wrap64 (-a0))) = j_ := ⟨_, rfl⟩
 replace H : ((culletref04_Divisor.f k (ji3) a1).bind fun t183 => (if t183 = 0 then (none) else (some (wrap64 (Int.tdiv a0 t183), wrap64 (Int.tdiv a1 t183))))) = some (r1, r2) := by first | (rw [hji3] at H; exact H) | (simp only [hji3] at H ⊢; exact H)
 have hji3_ : (if a0 < (wrap64 (-a0)) then (wrap64 (-a0)) else a0) = ji3 := hji3
 replace H := Option.bind_eq_some_iff.mp H
 obtain ⟨t183, A40, H⟩ := H
 replace H : (if t183 = 0 then (none) else (some (wrap64 (Int.tdiv a0 t183), wrap64 (Int.tdiv a1 t183)))) = some (r1, r2) := H
 have A4 := Aside0.mk A40
 clear A40
 by_cases c5 : t183 = 0
 ·rw [if_pos c5] at H
  exact absurd H zq63
 ·rw [if_neg c5] at H
  have c5b0 : (t183 == 0) = false := beq_eq_false_iff_ne.mpr c5
  have c5b1 : (t183 != 0) = true := bne_iff_ne.mpr c5
  simp only [Option.some.injEq, Prod.mk.injEq] at H
  obtain ⟨rfl, rfl⟩ := H
  go_enter Try.func28, Try.ntmps28
  try go_wp2_with (first | ((with_reducible refine gate_dst (N := 4) rfl ?_); refine box_event ?hg (N := 4) ?hd (cs := #[.int .i64 0, .int .i64 0]) (t := 35) ?hr ?_; (case hd => rfl); (case hg => rfl); (case hr => exact zq11); intro gb182 hg w6 hbox hb; have n_ := as4 (below_step zq3 hb) (hbox) ((zq31 : w.heap.size ≤ gb182)) ((zq31 : w.heap.size ≤ gb182)); clear HB hb hbox hg; obtain ⟨HB, BK182, GW182, GE182⟩ := n_) | ((with_reducible refine gate_callee (f := 59) rfl ?_); refine goesL_ (some 11) rfl rfl Try.func59 zq22 rfl #[.int .i64 ji3, .int .i64 a1] rfl (by (try simp only [List.map_toArray, List.map_cons, List.map_nil]); first | done | (simp only [hji3]; rfl) | rfl | (simp only [List.length_drop, List.length_take]; rfl)) ?_; (with_reducible refine (culletref04_Divisor.calls k ji3 a1 t183 _ A4.out).mono ?_); rintro e w' ⟨rfl, ⟨nd, rfl⟩⟩; refine ⟨_, rfl, ?_⟩; (try (rw [drewN_self w6]; generalize hq_ : World.drewN w6 _ = w6; have n_ := as2 ((by rw [← hq_]; exact (zq0 BK182.out)) : w6.heap[gb182]? = some (.cells #[.int .i64 0, .int .i64 0] 35 (0, 0))) ((by rw [← hq_]; exact zq129) : Below w.heap.size w w6); clear BK182 HB hq_; obtain ⟨BK182, HB⟩ := n_))))
  have n0_ := Aside0.mk (blk_drew BK182.out)
  have n1_ := Aside0.mk (below_drew1 HB.out)
  clear BK182
  clear HB
  have BK182 := n0_
  have HB := n1_
  clear n0_ n1_
  refine start_ (n := 8) (S := fun w' => True) (ds := []) #[false, false, false, false, false, false, false, false] zq22 rfl rfl trivial (fun hHeld => ?_); refine with_tabW culletref04_Made.tab2 culletref04_Made.bits2 (fun HT_ HW_ => ?_)
  generalize w6.drew = w7 at BK182 HB hHeld ⊢
  refine pure_ (i := 0) (N := some 12) (v := ?_) (a' := ?_) #[true, false, false, false, false, false, false, false] rfl rfl (any_of HT_.out zq22) (fun _ _ _ h => h) (Or.inl ⟨zq58, ?_⟩) ?_ ?_
  rotate_left
  exact zpw
  rotate_left
  exact zpa
  refine pure_ (i := 1) (N := some 13) (v := ?_) (a' := ?_) #[true, true, false, false, false, false, false, false] rfl rfl (any_of HT_.out zq22) (fun _ _ _ h => h) (Or.inl ⟨zq58, ?_⟩) ?_ ?_
  rotate_left
  exact zpw
  rotate_left
  exact zpa
  refine pure_ (i := 2) (N := some 14) (v := ?_) (a' := ?_) #[true, true, true, false, false, false, false, false] rfl rfl (any_of HT_.out zq22) (fun _ _ _ h => h) (Or.inl ⟨zq58, ?_⟩) ?_ ?_
  rotate_left
  exact zpw
  rotate_left
  exact zpa
  refine pure_ (i := 3) (N := some 15) (v := ?_) (a' := ?_) #[true, true, true, true, false, false, false, false] rfl rfl (any_of HT_.out zq22) (fun _ _ _ h => h) (Or.inl ⟨zq58, ?_⟩) ?_ ?_
  rotate_left
  exact zpw
  rotate_left
  exact zpa
  refine pure_ (i := 4) (N := some 16) (v := ?_) (a' := ?_) #[true, true, true, true, true, false, false, false] rfl rfl (any_of HT_.out zq22) (fun _ _ _ h => h) (Or.inl ⟨zq58, ?_⟩) ?_ ?_
  rotate_left
  exact zpw
  rotate_left
  exact zpa
  refine pure_ (i := 5) (N := some 17) (v := ?_) (a' := ?_) #[true, true, true, true, true, true, false, false] rfl rfl (any_of HT_.out zq22) (fun _ _ _ h => h) (Or.inl ⟨zq58, ?_⟩) ?_ ?_
  rotate_left
  exact zpw
  rotate_left
  exact zpa
  refine pure_ (i := 6) (N := some 18) (v := ?_) (a' := ?_) #[true, true, true, true, true, true, true, false] rfl rfl (any_of HT_.out zq22) (fun _ _ _ h => h) (Or.inl ⟨zq58, ?_⟩) ?_ ?_
  rotate_left
  exact zpw
  rotate_left
  exact zpa
  refine one_ (i := 7) (N := none) #[true, true, true, true, true, true, true, true] rfl rfl (one_of HT_.out zq22) zq56 (fun K hK => ?_)
  have hs8 : w7.cell? ⟨gb182, 0, none⟩ = some (.int .i64 0) := (blk_cell BK182.out 0).trans rfl
  have hfs8 := blk_frozen BK182.out 0
  have hs9 : w7.cell? ⟨gb182, 1, none⟩ = some (.int .i64 0) := (blk_cell BK182.out 1).trans rfl
  have hfs9 := blk_frozen BK182.out 1
  refine skip_ (w1 := ?_) zq58 rfl ?_ ?_
  rotate_left
  ·go_simp
   rfl
  refine hK.out _ _ trivial (fun hHeld => ?_)
  clear hK K
  refine done_ (done_of HT_.out zq22) ?_
  try go_wp2
  refine bodyPost_ret (results_cell_row rfl _ _ gb182 35 #[.int .i64 (wrap64 (Int.tdiv a0 t183)), .int .i64 (wrap64 (Int.tdiv a1 t183))] (0, 0) _ rfl (bch0p BK182.out) Try.underlying35 rfl zq22) rfl ?_
  exact ⟨by first | rfl | (simp [errW_none, errW_some] <;> rfl) | (simp only [← hji3]; first | rfl | (simp [errW_none, errW_some] <;> rfl)) | (simp [*, errW_none, errW_some] <;> rfl), zq129⟩
def culletref04_floor.f (a0 : Int) (a1 : Int) : Option (Int) := if a1 = 0 then (none) else (if (Int.tmod a0 a1) < 0 then (some (wrap64 ((wrap64 (Int.tdiv a0 a1)) - 1))) else (some (wrap64 (Int.tdiv a0 a1))))
set_option maxHeartbeats 8000000 in
set_option maxRecDepth 100000 in
theorem culletref04_floor.calls (a0 : Int) (a1 : Int) (r : Int) (w : World) (h : culletref04_floor.f a0 a1 = some r) :
  Calls Try.prog 78 #[.int .i64 a0, .int .i64 a1] w fun e w' => e = .returned (.int .i64 r) ∧ Drawn0 w w' := by
 have H : (if a1 = 0 then (none) else (if (Int.tmod a0 a1) < 0 then (some (wrap64 ((wrap64 (Int.tdiv a0 a1)) - 1))) else (some (wrap64 (Int.tdiv a0 a1))))) = some r := h
 clear h
 by_cases c3 : a1 = 0
 ·rw [if_pos c3] at H
  exact absurd H zq63
 ·rw [if_neg c3] at H
  have c3b0 : (a1 == 0) = false := beq_eq_false_iff_ne.mpr c3
  have c3b1 : (a1 != 0) = true := bne_iff_ne.mpr c3
  by_cases c4 : (Int.tmod a0 a1) < 0
  ·rw [if_pos c4] at H
   have c4b0 : decide ((Int.tmod a0 a1) < 0) = true := decide_eq_true c4
   clear c4
   obtain rfl := Option.some.inj H
   go_enter Try.func78, Try.ntmps78
   go_wp2
   go_ret
   exact ⟨zq10, zq32⟩
  ·rw [if_neg c4] at H
   have c4b0 : decide ((Int.tmod a0 a1) < 0) = false := decide_eq_false c4
   clear c4
   obtain rfl := Option.some.inj H
   go_enter Try.func78, Try.ntmps78
   go_wp2
   go_ret
   exact ⟨zq10, zq32⟩
mutual
def culletref04_Order.j0 : Nat → Int → Int → Bool → Int → Int → Int → Int → Option (Int)
 | 0, _, _, _, _, _, _, _ => none
 | k + 1, x7, x8, x39, x185000, x185001, x186000, x186001 => if x39 = true then (some 0) else (if x7 = 0 then (some (-1)) else (if x8 = 0 then (some 1) else ((culletref04_Order.f k x186001 x8 x185001 x7).bind fun t188 => (some t188))))
def culletref04_Order.f : Nat → Int → Int → Int → Int → Option (Int)
 | 0, _, _, _, _ => none
 | k + 1, a0_0, a0_1, a1_0, a1_1 => (culletref04_floor.f a0_0 a0_1).bind fun t186 => ((culletref04_floor.f a1_0 a1_1).bind fun t187 => (if t186 < t187 then (some (-1)) else (if t186 > t187 then (some 1) else (if (wrap64 (a0_0 - (wrap64 (t186 * a0_1)))) = 0 then (culletref04_Order.j0 k (wrap64 (a0_0 - (wrap64 (t186 * a0_1)))) (wrap64 (a1_0 - (wrap64 (t187 * a1_1)))) ((wrap64 (a1_0 - (wrap64 (t187 * a1_1)))) == 0) a0_0 a0_1 a1_0 a1_1) else (culletref04_Order.j0 k (wrap64 (a0_0 - (wrap64 (t186 * a0_1)))) (wrap64 (a1_0 - (wrap64 (t187 * a1_1)))) false a0_0 a0_1 a1_0 a1_1)))))
end
set_option maxHeartbeats 8000000 in
set_option maxRecDepth 100000 in
theorem culletref04_Order.calls (k : Nat) : ∀ (a0_0 : Int) (a0_1 : Int) (a1_0 : Int) (a1_1 : Int) (r : Int) (w : World) (h : culletref04_Order.f k a0_0 a0_1 a1_0 a1_1 = some r),
  Calls Try.prog 60 #[.agg #[.int .i64 a0_0, .int .i64 a0_1], .agg #[.int .i64 a1_0, .int .i64 a1_1]] w fun e w' => e = .returned (.int .i64 r) ∧ Below w.heap.size w w' := by
 induction k using Nat.strongRecOn with
 | _ k ih =>
 intro a0_0 a0_1 a1_0 a1_1 r w h
 cases k with
 | zero => exact absurd h (by simp [culletref04_Order.f])
 | succ k =>
 simp only [culletref04_Order.f] at h
 have hu35 := Try.underlying35
 have HB := Aside0.mk (Below.refl w.heap.size w)
 have H : ((culletref04_floor.f a0_0 a0_1).bind fun t186 => ((culletref04_floor.f a1_0 a1_1).bind fun t187 => (if t186 < t187 then (some (-1)) else (if t186 > t187 then (some 1) else (if (wrap64 (a0_0 - (wrap64 (t186 * a0_1)))) = 0 then (culletref04_Order.j0 k (wrap64 (a0_0 - (wrap64 (t186 * a0_1)))) (wrap64 (a1_0 - (wrap64 (t187 * a1_1)))) ((wrap64 (a1_0 - (wrap64 (t187 * a1_1)))) == 0) a0_0 a0_1 a1_0 a1_1) else (culletref04_Order.j0 k (wrap64 (a0_0 - (wrap64 (t186 * a0_1)))) (wrap64 (a1_0 - (wrap64 (t187 * a1_1)))) false a0_0 a0_1 a1_0 a1_1)))))) = some r := h
 clear h
 replace H := Option.bind_eq_some_iff.mp H
 obtain ⟨t186, A30, H⟩ := H
 replace H : ((culletref04_floor.f a1_0 a1_1).bind fun t187 => (if t186 < t187 then (some (-1)) else (if t186 > t187 then (some 1) else (if (wrap64 (a0_0 - (wrap64 (t186 * a0_1)))) = 0 then (culletref04_Order.j0 k (wrap64 (a0_0 - (wrap64 (t186 * a0_1)))) (wrap64 (a1_0 - (wrap64 (t187 * a1_1)))) ((wrap64 (a1_0 - (wrap64 (t187 * a1_1)))) == 0) a0_0 a0_1 a1_0 a1_1) else (culletref04_Order.j0 k (wrap64 (a0_0 - (wrap64 (t186 * a0_1)))) (wrap64 (a1_0 - (wrap64 (t187 * a1_1)))) false a0_0 a0_1 a1_0 a1_1))))) = some r := H
 have A3 := Aside0.mk A30
 clear A30
 replace H := Option.bind_eq_some_iff.mp H
 obtain ⟨t187, A40, H⟩ := H
 replace H : (if t186 < t187 then (some (-1)) else (if t186 > t187 then (some 1) else (if (wrap64 (a0_0 - (wrap64 (t186 * a0_1)))) = 0 then (culletref04_Order.j0 k (wrap64 (a0_0 - (wrap64 (t186 * a0_1)))) (wrap64 (a1_0 - (wrap64 (t187 * a1_1)))) ((wrap64 (a1_0 - (wrap64 (t187 * a1_1)))) == 0) a0_0 a0_1 a1_0 a1_1) else (culletref04_Order.j0 k (wrap64 (a0_0 - (wrap64 (t186 * a0_1)))) (wrap64 (a1_0 - (wrap64 (t187 * a1_1)))) false a0_0 a0_1 a1_0 a1_1)))) = some r := H
 have A4 := Aside0.mk A40
 clear A40
 by_cases c5 : t186 < t187
 ·rw [if_pos c5] at H
  have c5b0 : decide (t186 < t187) = true := decide_eq_true c5
  clear c5
  obtain rfl := Option.some.inj H
  go_enter Try.func60, Try.ntmps60
  go_wp2_with (first | ((with_reducible refine gate_dst (N := 2) rfl ?_); refine box_event ?hg (N := 2) ?hd (cs := #[.int .i64 a0_0, .int .i64 a0_1]) (t := 35) ?hr ?_; (case hd => rfl); (case hg => rfl); (case hr => exact zq11); intro gb184 hg w6 hbox hb; have n_ := as4 (below_step zq3 hb) (hbox) ((zq31 : w.heap.size ≤ gb184)) ((zq31 : w.heap.size ≤ gb184)); clear HB hb hbox hg; obtain ⟨HB, BK184, GW184, GE184⟩ := n_) | ((with_reducible refine gate_dst (N := 3) rfl ?_); refine box_event ?hg (N := 3) ?hd (cs := #[.int .i64 a1_0, .int .i64 a1_1]) (t := 35) ?hr ?_; (case hd => rfl); (case hg => rfl); (case hr => exact zq11); intro gb185 hg w7 hbox hb; have n_ := as7 (blk_below (zq0 BK184.out) hb) (below_step zq19 hb) (hbox) ((zq68 : w.heap.size ≤ gb185)) ((zq68 : w.heap.size ≤ gb185)) ((zq82 : gb184 ≠ gb185)) ((zq86 : gb185 ≠ gb184)); clear BK184 HB hb hbox hg; obtain ⟨BK184, HB, BK185, GW185, GE185, NB184_185, NB185_184⟩ := n_; have hnb8 := NB184_185.out; have hnc8 := NB185_184.out; obtain ⟨hcz9_0, hcz9_1, hfz9_0, hfz9_1⟩ := bcs2 BK184.out) | (go_at_call 78; (with_reducible refine (culletref04_floor.calls a0_0 a0_1 t186 _ A3.out).mono ?_); rintro e w' ⟨rfl, ⟨nd, rfl⟩⟩; (try first | exact ⟨rfl, _, World.drewN_drewN _ _ _⟩ | exact ⟨rfl, _, Eq.trans (World.drewN_drewN _ _ _) (congrArg (World.drewN _) (Nat.add_assoc _ _ _))⟩); obtain ⟨hcz10_0, hcz10_1, hfz10_0, hfz10_1⟩ := bcs2 BK185.out) | (go_at_call 78; (with_reducible refine (culletref04_floor.calls a1_0 a1_1 t187 _ A4.out).mono ?_); rintro e w' ⟨rfl, ⟨nd, rfl⟩⟩; (try first | exact ⟨rfl, _, World.drewN_drewN _ _ _⟩ | exact ⟨rfl, _, Eq.trans (World.drewN_drewN _ _ _) (congrArg (World.drewN _) (Nat.add_assoc _ _ _))⟩)))
  repeat (go_quiet (first | ((with_reducible refine gate_dst (N := 2) rfl ?_); refine box_event ?hg (N := 2) ?hd (cs := #[.int .i64 a0_0, .int .i64 a0_1]) (t := 35) ?hr ?_; (case hd => rfl); (case hg => rfl); (case hr => exact zq11); intro gb184 hg w6 hbox hb; have n_ := as4 (below_step zq3 hb) (hbox) ((zq31 : w.heap.size ≤ gb184)) ((zq31 : w.heap.size ≤ gb184)); clear HB hb hbox hg; obtain ⟨HB, BK184, GW184, GE184⟩ := n_) | ((with_reducible refine gate_dst (N := 3) rfl ?_); refine box_event ?hg (N := 3) ?hd (cs := #[.int .i64 a1_0, .int .i64 a1_1]) (t := 35) ?hr ?_; (case hd => rfl); (case hg => rfl); (case hr => exact zq11); intro gb185 hg w7 hbox hb; have n_ := as7 (blk_below (zq0 BK184.out) hb) (below_step zq19 hb) (hbox) ((zq68 : w.heap.size ≤ gb185)) ((zq68 : w.heap.size ≤ gb185)) ((zq82 : gb184 ≠ gb185)) ((zq86 : gb185 ≠ gb184)); clear BK184 HB hb hbox hg; obtain ⟨BK184, HB, BK185, GW185, GE185, NB184_185, NB185_184⟩ := n_; have hnb8 := NB184_185.out; have hnc8 := NB185_184.out; obtain ⟨hcz9_0, hcz9_1, hfz9_0, hfz9_1⟩ := bcs2 BK184.out) | (go_at_call 78; (with_reducible refine (culletref04_floor.calls a0_0 a0_1 t186 _ A3.out).mono ?_); rintro e w' ⟨rfl, ⟨nd, rfl⟩⟩; (try first | exact ⟨rfl, _, World.drewN_drewN _ _ _⟩ | exact ⟨rfl, _, Eq.trans (World.drewN_drewN _ _ _) (congrArg (World.drewN _) (Nat.add_assoc _ _ _))⟩); obtain ⟨hcz10_0, hcz10_1, hfz10_0, hfz10_1⟩ := bcs2 BK185.out) | (go_at_call 78; (with_reducible refine (culletref04_floor.calls a1_0 a1_1 t187 _ A4.out).mono ?_); rintro e w' ⟨rfl, ⟨nd, rfl⟩⟩; (try first | exact ⟨rfl, _, World.drewN_drewN _ _ _⟩ | exact ⟨rfl, _, Eq.trans (World.drewN_drewN _ _ _) (congrArg (World.drewN _) (Nat.add_assoc _ _ _))⟩))); try go_wp2_with (first | ((with_reducible refine gate_dst (N := 2) rfl ?_); refine box_event ?hg (N := 2) ?hd (cs := #[.int .i64 a0_0, .int .i64 a0_1]) (t := 35) ?hr ?_; (case hd => rfl); (case hg => rfl); (case hr => exact zq11); intro gb184 hg w6 hbox hb; have n_ := as4 (below_step zq3 hb) (hbox) ((zq31 : w.heap.size ≤ gb184)) ((zq31 : w.heap.size ≤ gb184)); clear HB hb hbox hg; obtain ⟨HB, BK184, GW184, GE184⟩ := n_) | ((with_reducible refine gate_dst (N := 3) rfl ?_); refine box_event ?hg (N := 3) ?hd (cs := #[.int .i64 a1_0, .int .i64 a1_1]) (t := 35) ?hr ?_; (case hd => rfl); (case hg => rfl); (case hr => exact zq11); intro gb185 hg w7 hbox hb; have n_ := as7 (blk_below (zq0 BK184.out) hb) (below_step zq19 hb) (hbox) ((zq68 : w.heap.size ≤ gb185)) ((zq68 : w.heap.size ≤ gb185)) ((zq82 : gb184 ≠ gb185)) ((zq86 : gb185 ≠ gb184)); clear BK184 HB hb hbox hg; obtain ⟨BK184, HB, BK185, GW185, GE185, NB184_185, NB185_184⟩ := n_; have hnb8 := NB184_185.out; have hnc8 := NB185_184.out; obtain ⟨hcz9_0, hcz9_1, hfz9_0, hfz9_1⟩ := bcs2 BK184.out) | (go_at_call 78; (with_reducible refine (culletref04_floor.calls a0_0 a0_1 t186 _ A3.out).mono ?_); rintro e w' ⟨rfl, ⟨nd, rfl⟩⟩; (try first | exact ⟨rfl, _, World.drewN_drewN _ _ _⟩ | exact ⟨rfl, _, Eq.trans (World.drewN_drewN _ _ _) (congrArg (World.drewN _) (Nat.add_assoc _ _ _))⟩); obtain ⟨hcz10_0, hcz10_1, hfz10_0, hfz10_1⟩ := bcs2 BK185.out) | (go_at_call 78; (with_reducible refine (culletref04_floor.calls a1_0 a1_1 t187 _ A4.out).mono ?_); rintro e w' ⟨rfl, ⟨nd, rfl⟩⟩; (try first | exact ⟨rfl, _, World.drewN_drewN _ _ _⟩ | exact ⟨rfl, _, Eq.trans (World.drewN_drewN _ _ _) (congrArg (World.drewN _) (Nat.add_assoc _ _ _))⟩))))
  go_ret
  exact ⟨zq9, zq43⟩
 ·rw [if_neg c5] at H
  have c5b0 : decide (t186 < t187) = false := decide_eq_false c5
  clear c5
  by_cases c11 : t186 > t187
  ·rw [if_pos c11] at H
   have c11b0 : decide (t187 < t186) = true := decide_eq_true c11
   clear c11
   obtain rfl := Option.some.inj H
   go_enter Try.func60, Try.ntmps60
   go_wp2_with (first | ((with_reducible refine gate_dst (N := 2) rfl ?_); refine box_event ?hg (N := 2) ?hd (cs := #[.int .i64 a0_0, .int .i64 a0_1]) (t := 35) ?hr ?_; (case hd => rfl); (case hg => rfl); (case hr => exact zq11); intro gb184 hg w12 hbox hb; have n_ := as4 (below_step zq3 hb) (hbox) ((zq31 : w.heap.size ≤ gb184)) ((zq31 : w.heap.size ≤ gb184)); clear HB hb hbox hg; obtain ⟨HB, BK184, GW184, GE184⟩ := n_) | ((with_reducible refine gate_dst (N := 3) rfl ?_); refine box_event ?hg (N := 3) ?hd (cs := #[.int .i64 a1_0, .int .i64 a1_1]) (t := 35) ?hr ?_; (case hd => rfl); (case hg => rfl); (case hr => exact zq11); intro gb185 hg w13 hbox hb; have n_ := as7 (blk_below (zq0 BK184.out) hb) (below_step zq19 hb) (hbox) ((zq68 : w.heap.size ≤ gb185)) ((zq68 : w.heap.size ≤ gb185)) ((zq82 : gb184 ≠ gb185)) ((zq86 : gb185 ≠ gb184)); clear BK184 HB hb hbox hg; obtain ⟨BK184, HB, BK185, GW185, GE185, NB184_185, NB185_184⟩ := n_; have hnb14 := NB184_185.out; have hnc14 := NB185_184.out; obtain ⟨hcz15_0, hcz15_1, hfz15_0, hfz15_1⟩ := bcs2 BK184.out) | (go_at_call 78; (with_reducible refine (culletref04_floor.calls a0_0 a0_1 t186 _ A3.out).mono ?_); rintro e w' ⟨rfl, ⟨nd, rfl⟩⟩; (try first | exact ⟨rfl, _, World.drewN_drewN _ _ _⟩ | exact ⟨rfl, _, Eq.trans (World.drewN_drewN _ _ _) (congrArg (World.drewN _) (Nat.add_assoc _ _ _))⟩); obtain ⟨hcz16_0, hcz16_1, hfz16_0, hfz16_1⟩ := bcs2 BK185.out) | (go_at_call 78; (with_reducible refine (culletref04_floor.calls a1_0 a1_1 t187 _ A4.out).mono ?_); rintro e w' ⟨rfl, ⟨nd, rfl⟩⟩; (try first | exact ⟨rfl, _, World.drewN_drewN _ _ _⟩ | exact ⟨rfl, _, Eq.trans (World.drewN_drewN _ _ _) (congrArg (World.drewN _) (Nat.add_assoc _ _ _))⟩)))
   repeat (go_quiet (first | ((with_reducible refine gate_dst (N := 2) rfl ?_); refine box_event ?hg (N := 2) ?hd (cs := #[.int .i64 a0_0, .int .i64 a0_1]) (t := 35) ?hr ?_; (case hd => rfl); (case hg => rfl); (case hr => exact zq11); intro gb184 hg w12 hbox hb; have n_ := as4 (below_step zq3 hb) (hbox) ((zq31 : w.heap.size ≤ gb184)) ((zq31 : w.heap.size ≤ gb184)); clear HB hb hbox hg; obtain ⟨HB, BK184, GW184, GE184⟩ := n_) | ((with_reducible refine gate_dst (N := 3) rfl ?_); refine box_event ?hg (N := 3) ?hd (cs := #[.int .i64 a1_0, .int .i64 a1_1]) (t := 35) ?hr ?_; (case hd => rfl); (case hg => rfl); (case hr => exact zq11); intro gb185 hg w13 hbox hb; have n_ := as7 (blk_below (zq0 BK184.out) hb) (below_step zq19 hb) (hbox) ((zq68 : w.heap.size ≤ gb185)) ((zq68 : w.heap.size ≤ gb185)) ((zq82 : gb184 ≠ gb185)) ((zq86 : gb185 ≠ gb184)); clear BK184 HB hb hbox hg; obtain ⟨BK184, HB, BK185, GW185, GE185, NB184_185, NB185_184⟩ := n_; have hnb14 := NB184_185.out; have hnc14 := NB185_184.out; obtain ⟨hcz15_0, hcz15_1, hfz15_0, hfz15_1⟩ := bcs2 BK184.out) | (go_at_call 78; (with_reducible refine (culletref04_floor.calls a0_0 a0_1 t186 _ A3.out).mono ?_); rintro e w' ⟨rfl, ⟨nd, rfl⟩⟩; (try first | exact ⟨rfl, _, World.drewN_drewN _ _ _⟩ | exact ⟨rfl, _, Eq.trans (World.drewN_drewN _ _ _) (congrArg (World.drewN _) (Nat.add_assoc _ _ _))⟩); obtain ⟨hcz16_0, hcz16_1, hfz16_0, hfz16_1⟩ := bcs2 BK185.out) | (go_at_call 78; (with_reducible refine (culletref04_floor.calls a1_0 a1_1 t187 _ A4.out).mono ?_); rintro e w' ⟨rfl, ⟨nd, rfl⟩⟩; (try first | exact ⟨rfl, _, World.drewN_drewN _ _ _⟩ | exact ⟨rfl, _, Eq.trans (World.drewN_drewN _ _ _) (congrArg (World.drewN _) (Nat.add_assoc _ _ _))⟩))); try go_wp2_with (first | ((with_reducible refine gate_dst (N := 2) rfl ?_); refine box_event ?hg (N := 2) ?hd (cs := #[.int .i64 a0_0, .int .i64 a0_1]) (t := 35) ?hr ?_; (case hd => rfl); (case hg => rfl); (case hr => exact zq11); intro gb184 hg w12 hbox hb; have n_ := as4 (below_step zq3 hb) (hbox) ((zq31 : w.heap.size ≤ gb184)) ((zq31 : w.heap.size ≤ gb184)); clear HB hb hbox hg; obtain ⟨HB, BK184, GW184, GE184⟩ := n_) | ((with_reducible refine gate_dst (N := 3) rfl ?_); refine box_event ?hg (N := 3) ?hd (cs := #[.int .i64 a1_0, .int .i64 a1_1]) (t := 35) ?hr ?_; (case hd => rfl); (case hg => rfl); (case hr => exact zq11); intro gb185 hg w13 hbox hb; have n_ := as7 (blk_below (zq0 BK184.out) hb) (below_step zq19 hb) (hbox) ((zq68 : w.heap.size ≤ gb185)) ((zq68 : w.heap.size ≤ gb185)) ((zq82 : gb184 ≠ gb185)) ((zq86 : gb185 ≠ gb184)); clear BK184 HB hb hbox hg; obtain ⟨BK184, HB, BK185, GW185, GE185, NB184_185, NB185_184⟩ := n_; have hnb14 := NB184_185.out; have hnc14 := NB185_184.out; obtain ⟨hcz15_0, hcz15_1, hfz15_0, hfz15_1⟩ := bcs2 BK184.out) | (go_at_call 78; (with_reducible refine (culletref04_floor.calls a0_0 a0_1 t186 _ A3.out).mono ?_); rintro e w' ⟨rfl, ⟨nd, rfl⟩⟩; (try first | exact ⟨rfl, _, World.drewN_drewN _ _ _⟩ | exact ⟨rfl, _, Eq.trans (World.drewN_drewN _ _ _) (congrArg (World.drewN _) (Nat.add_assoc _ _ _))⟩); obtain ⟨hcz16_0, hcz16_1, hfz16_0, hfz16_1⟩ := bcs2 BK185.out) | (go_at_call 78; (with_reducible refine (culletref04_floor.calls a1_0 a1_1 t187 _ A4.out).mono ?_); rintro e w' ⟨rfl, ⟨nd, rfl⟩⟩; (try first | exact ⟨rfl, _, World.drewN_drewN _ _ _⟩ | exact ⟨rfl, _, Eq.trans (World.drewN_drewN _ _ _) (congrArg (World.drewN _) (Nat.add_assoc _ _ _))⟩))))
   go_ret
   exact ⟨zq9, zq43⟩
  ·rw [if_neg c11] at H
   have c11b0 : decide (t187 < t186) = false := decide_eq_false c11
   clear c11
   have HC17 := Aside0.mk H
   clear H
   go_enter Try.func60, Try.ntmps60
   go_upto_region 7 with (first | ((with_reducible refine gate_dst (N := 2) rfl ?_); refine box_event ?hg (N := 2) ?hd (cs := #[.int .i64 a0_0, .int .i64 a0_1]) (t := 35) ?hr ?_; (case hd => rfl); (case hg => rfl); (case hr => exact zq11); intro gb184 hg w18 hbox hb; have n_ := as4 (below_step zq3 hb) (hbox) ((zq31 : w.heap.size ≤ gb184)) ((zq31 : w.heap.size ≤ gb184)); clear HB hb hbox hg; obtain ⟨HB, BK184, GW184, GE184⟩ := n_) | ((with_reducible refine gate_dst (N := 3) rfl ?_); refine box_event ?hg (N := 3) ?hd (cs := #[.int .i64 a1_0, .int .i64 a1_1]) (t := 35) ?hr ?_; (case hd => rfl); (case hg => rfl); (case hr => exact zq11); intro gb185 hg w19 hbox hb; have n_ := as7 (blk_below (zq0 BK184.out) hb) (below_step zq19 hb) (hbox) ((zq68 : w.heap.size ≤ gb185)) ((zq68 : w.heap.size ≤ gb185)) ((zq82 : gb184 ≠ gb185)) ((zq86 : gb185 ≠ gb184)); clear BK184 HB hb hbox hg; obtain ⟨BK184, HB, BK185, GW185, GE185, NB184_185, NB185_184⟩ := n_; have hnb20 := NB184_185.out; have hnc20 := NB185_184.out; obtain ⟨hcz21_0, hcz21_1, hfz21_0, hfz21_1⟩ := bcs2 BK184.out) | (go_at_call 78; (with_reducible refine (culletref04_floor.calls a0_0 a0_1 t186 _ A3.out).mono ?_); rintro e w' ⟨rfl, ⟨nd, rfl⟩⟩; (try first | exact ⟨rfl, _, World.drewN_drewN _ _ _⟩ | exact ⟨rfl, _, Eq.trans (World.drewN_drewN _ _ _) (congrArg (World.drewN _) (Nat.add_assoc _ _ _))⟩); obtain ⟨hcz22_0, hcz22_1, hfz22_0, hfz22_1⟩ := bcs2 BK185.out) | (go_at_call 78; (with_reducible refine (culletref04_floor.calls a1_0 a1_1 t187 _ A4.out).mono ?_); rintro e w' ⟨rfl, ⟨nd, rfl⟩⟩; (try first | exact ⟨rfl, _, World.drewN_drewN _ _ _⟩ | exact ⟨rfl, _, Eq.trans (World.drewN_drewN _ _ _) (congrArg (World.drewN _) (Nat.add_assoc _ _ _))⟩)))
   repeat (go_quiet (first | ((with_reducible refine gate_dst (N := 2) rfl ?_); refine box_event ?hg (N := 2) ?hd (cs := #[.int .i64 a0_0, .int .i64 a0_1]) (t := 35) ?hr ?_; (case hd => rfl); (case hg => rfl); (case hr => exact zq11); intro gb184 hg w18 hbox hb; have n_ := as4 (below_step zq3 hb) (hbox) ((zq31 : w.heap.size ≤ gb184)) ((zq31 : w.heap.size ≤ gb184)); clear HB hb hbox hg; obtain ⟨HB, BK184, GW184, GE184⟩ := n_) | ((with_reducible refine gate_dst (N := 3) rfl ?_); refine box_event ?hg (N := 3) ?hd (cs := #[.int .i64 a1_0, .int .i64 a1_1]) (t := 35) ?hr ?_; (case hd => rfl); (case hg => rfl); (case hr => exact zq11); intro gb185 hg w19 hbox hb; have n_ := as7 (blk_below (zq0 BK184.out) hb) (below_step zq19 hb) (hbox) ((zq68 : w.heap.size ≤ gb185)) ((zq68 : w.heap.size ≤ gb185)) ((zq82 : gb184 ≠ gb185)) ((zq86 : gb185 ≠ gb184)); clear BK184 HB hb hbox hg; obtain ⟨BK184, HB, BK185, GW185, GE185, NB184_185, NB185_184⟩ := n_; have hnb20 := NB184_185.out; have hnc20 := NB185_184.out; obtain ⟨hcz21_0, hcz21_1, hfz21_0, hfz21_1⟩ := bcs2 BK184.out) | (go_at_call 78; (with_reducible refine (culletref04_floor.calls a0_0 a0_1 t186 _ A3.out).mono ?_); rintro e w' ⟨rfl, ⟨nd, rfl⟩⟩; (try first | exact ⟨rfl, _, World.drewN_drewN _ _ _⟩ | exact ⟨rfl, _, Eq.trans (World.drewN_drewN _ _ _) (congrArg (World.drewN _) (Nat.add_assoc _ _ _))⟩); obtain ⟨hcz22_0, hcz22_1, hfz22_0, hfz22_1⟩ := bcs2 BK185.out) | (go_at_call 78; (with_reducible refine (culletref04_floor.calls a1_0 a1_1 t187 _ A4.out).mono ?_); rintro e w' ⟨rfl, ⟨nd, rfl⟩⟩; (try first | exact ⟨rfl, _, World.drewN_drewN _ _ _⟩ | exact ⟨rfl, _, Eq.trans (World.drewN_drewN _ _ _) (congrArg (World.drewN _) (Nat.add_assoc _ _ _))⟩))); go_upto_region 7 with (first | ((with_reducible refine gate_dst (N := 2) rfl ?_); refine box_event ?hg (N := 2) ?hd (cs := #[.int .i64 a0_0, .int .i64 a0_1]) (t := 35) ?hr ?_; (case hd => rfl); (case hg => rfl); (case hr => exact zq11); intro gb184 hg w18 hbox hb; have n_ := as4 (below_step zq3 hb) (hbox) ((zq31 : w.heap.size ≤ gb184)) ((zq31 : w.heap.size ≤ gb184)); clear HB hb hbox hg; obtain ⟨HB, BK184, GW184, GE184⟩ := n_) | ((with_reducible refine gate_dst (N := 3) rfl ?_); refine box_event ?hg (N := 3) ?hd (cs := #[.int .i64 a1_0, .int .i64 a1_1]) (t := 35) ?hr ?_; (case hd => rfl); (case hg => rfl); (case hr => exact zq11); intro gb185 hg w19 hbox hb; have n_ := as7 (blk_below (zq0 BK184.out) hb) (below_step zq19 hb) (hbox) ((zq68 : w.heap.size ≤ gb185)) ((zq68 : w.heap.size ≤ gb185)) ((zq82 : gb184 ≠ gb185)) ((zq86 : gb185 ≠ gb184)); clear BK184 HB hb hbox hg; obtain ⟨BK184, HB, BK185, GW185, GE185, NB184_185, NB185_184⟩ := n_; have hnb20 := NB184_185.out; have hnc20 := NB185_184.out; obtain ⟨hcz21_0, hcz21_1, hfz21_0, hfz21_1⟩ := bcs2 BK184.out) | (go_at_call 78; (with_reducible refine (culletref04_floor.calls a0_0 a0_1 t186 _ A3.out).mono ?_); rintro e w' ⟨rfl, ⟨nd, rfl⟩⟩; (try first | exact ⟨rfl, _, World.drewN_drewN _ _ _⟩ | exact ⟨rfl, _, Eq.trans (World.drewN_drewN _ _ _) (congrArg (World.drewN _) (Nat.add_assoc _ _ _))⟩); obtain ⟨hcz22_0, hcz22_1, hfz22_0, hfz22_1⟩ := bcs2 BK185.out) | (go_at_call 78; (with_reducible refine (culletref04_floor.calls a1_0 a1_1 t187 _ A4.out).mono ?_); rintro e w' ⟨rfl, ⟨nd, rfl⟩⟩; (try first | exact ⟨rfl, _, World.drewN_drewN _ _ _⟩ | exact ⟨rfl, _, Eq.trans (World.drewN_drewN _ _ _) (congrArg (World.drewN _) (Nat.add_assoc _ _ _))⟩))))
   (try simp only [Act.put, List.setIfInBounds_toArray, List.set_cons_zero, List.set_cons_succ])
   go_cut [39] (fun v39 wc => ∃ (kq : Nat) (x39_16 : Bool), v39 = .bool x39_16 ∧ Aside0 (culletref04_Order.j0 kq (wrap64 (a0_0 - (wrap64 (t186 * a0_1)))) (wrap64 (a1_0 - (wrap64 (t187 * a1_1)))) x39_16 a0_0 a0_1 a1_0 a1_1 = some r) ∧ Aside0 (kq ≤ k) ∧ Aside0 (wc.heap[gb184]? = some (.cells #[.int .i64 a0_0, .int .i64 a0_1] 35 (0, 0))) ∧ Aside0 (wc.heap[gb185]? = some (.cells #[.int .i64 a1_0, .int .i64 a1_1] 35 (0, 0))) ∧ Aside0 (Below w.heap.size w wc))
   case first =>
    have H := HC17.out
    clear HC17
    by_cases c23 : (wrap64 (a0_0 - (wrap64 (t186 * a0_1)))) = 0
    ·rw [if_pos c23] at H
     have c23b0 : ((wrap64 (a0_0 - (wrap64 (t186 * a0_1)))) == 0) = true := beq_iff_eq.mpr c23
     have c23b1 : ((wrap64 (a0_0 - (wrap64 (t186 * a0_1)))) != 0) = false := bne_eq_false_iff_eq.mpr c23
     clear c23
     (first | rw [c23b0] | (simp only [i64_w, i32_w]; rw [c23b0]) | skip)
     have H' := Aside0.mk H
     clear H
     go_wp2
     repeat (go_quiet (fail); try go_wp2)
     go_meet
     case rel => exact ⟨_, (((wrap64 (a1_0 - (wrap64 (t187 * a1_1)))) == 0)), zq10, H', ⟨zq50⟩, ⟨(zq0 BK184.out)⟩, ⟨(zq0 BK185.out)⟩, ⟨zq43⟩⟩
    ·rw [if_neg c23] at H
     have c23b0 : ((wrap64 (a0_0 - (wrap64 (t186 * a0_1)))) == 0) = false := beq_eq_false_iff_ne.mpr c23
     have c23b1 : ((wrap64 (a0_0 - (wrap64 (t186 * a0_1)))) != 0) = true := bne_iff_ne.mpr c23
     (first | rw [c23b0] | (simp only [i64_w, i32_w]; rw [c23b0]) | skip)
     have H' := Aside0.mk H
     clear H
     go_wp2
     repeat (go_quiet (fail); try go_wp2)
     go_meet
     case rel => exact ⟨_, (false), zq10, H', ⟨zq50⟩, ⟨(zq0 BK184.out)⟩, ⟨(zq0 BK185.out)⟩, ⟨zq43⟩⟩
   case rest =>
    clear HC17
    try clear c1
    try clear c2
    try clear p2
    try clear c5
    try clear c5b0
    try clear c6
    try clear p6
    try clear c8
    try clear c11
    try clear c11b0
    try clear c14
    try clear c20
    try clear c23
    try clear c23b0
    try clear c23b1
    try clear hcz10_0 hcz10_1 hfz10_0 hfz10_1
    try clear hcz15_0 hcz15_1 hfz15_0 hfz15_1
    try clear hcz16_0 hcz16_1 hfz16_0 hfz16_1
    try clear hcz21_0 hcz21_1 hfz21_0 hfz21_1
    try clear hcz22_0 hcz22_1 hfz22_0 hfz22_1
    try clear hcz9_0 hcz9_1 hfz9_0 hfz9_1
    obtain ⟨kq, x39_16, rfl, HA, HJ16, BK184, BK185, HB⟩ := hcut
    cases kq with
    | zero => exact absurd HA.out (by simp [culletref04_Order.j0])
    | succ kj16 =>
     have H := HA.out
     clear HA
     simp only [culletref04_Order.j0] at H
     by_cases c24 : x39_16 = true
     ·subst c24
      have H1 : (some 0) = some r := by rw [if_pos rfl] at H; exact H
      clear H
      have H := H1
      clear H1
      obtain rfl := Option.some.inj H
      go_wp2
      repeat (go_quiet (fail); try go_wp2)
      go_ret
      exact ⟨zq9, zq43⟩
     ·replace c24 := Bool.eq_false_iff.mpr c24
      subst c24
      have H1 : (if (wrap64 (a0_0 - (wrap64 (t186 * a0_1)))) = 0 then (some (-1)) else (if (wrap64 (a1_0 - (wrap64 (t187 * a1_1)))) = 0 then (some 1) else ((culletref04_Order.f kj16 a1_1 (wrap64 (a1_0 - (wrap64 (t187 * a1_1)))) a0_1 (wrap64 (a0_0 - (wrap64 (t186 * a0_1))))).bind fun t188 => (some t188)))) = some r := by rw [if_neg (show ¬ (false = true) by decide)] at H; exact H
      clear H
      have H := H1
      clear H1
      by_cases c25 : (wrap64 (a0_0 - (wrap64 (t186 * a0_1)))) = 0
      ·rw [if_pos c25] at H
       have c25b0 : ((wrap64 (a0_0 - (wrap64 (t186 * a0_1)))) == 0) = true := beq_iff_eq.mpr c25
       have c25b1 : ((wrap64 (a0_0 - (wrap64 (t186 * a0_1)))) != 0) = false := bne_eq_false_iff_eq.mpr c25
       clear c25
       obtain rfl := Option.some.inj H
       go_wp2
       repeat (go_quiet (fail); try go_wp2)
       go_ret
       exact ⟨zq9, zq43⟩
      ·rw [if_neg c25] at H
       have c25b0 : ((wrap64 (a0_0 - (wrap64 (t186 * a0_1)))) == 0) = false := beq_eq_false_iff_ne.mpr c25
       have c25b1 : ((wrap64 (a0_0 - (wrap64 (t186 * a0_1)))) != 0) = true := bne_iff_ne.mpr c25
       by_cases c26 : (wrap64 (a1_0 - (wrap64 (t187 * a1_1)))) = 0
       ·rw [if_pos c26] at H
        have c26b0 : ((wrap64 (a1_0 - (wrap64 (t187 * a1_1)))) == 0) = true := beq_iff_eq.mpr c26
        have c26b1 : ((wrap64 (a1_0 - (wrap64 (t187 * a1_1)))) != 0) = false := bne_eq_false_iff_eq.mpr c26
        clear c26
        obtain rfl := Option.some.inj H
        go_wp2
        repeat (go_quiet (fail); try go_wp2)
        go_ret
        exact ⟨zq9, zq43⟩
       ·rw [if_neg c26] at H
        have c26b0 : ((wrap64 (a1_0 - (wrap64 (t187 * a1_1)))) == 0) = false := beq_eq_false_iff_ne.mpr c26
        have c26b1 : ((wrap64 (a1_0 - (wrap64 (t187 * a1_1)))) != 0) = true := bne_iff_ne.mpr c26
        replace H := Option.bind_eq_some_iff.mp H
        obtain ⟨t188, A270, H⟩ := H
        replace H : (some t188) = some r := H
        have A27 := Aside0.mk A270
        clear A270
        obtain rfl := Option.some.inj H
        have hnb28 := NB185_184.out
        have hnc28 := NB184_185.out
        obtain ⟨hcz29_0, hcz29_1, hfz29_0, hfz29_1⟩ := bcs2 BK185.out
        obtain ⟨hcz30_0, hcz30_1, hfz30_0, hfz30_1⟩ := bcs2 BK184.out
        go_wp2_with (first | (go_at_call 60; (with_reducible refine (ih kj16 (by have := HJ16.out; omega) a1_1 (wrap64 (a1_0 - (wrap64 (t187 * a1_1)))) a0_1 (wrap64 (a0_0 - (wrap64 (t186 * a0_1)))) t188 _ A27.out).mono ?_); rintro e w31 ⟨rfl, hb⟩; have n_ := as3 (blk_below (zq0 BK184.out) hb) (blk_below (zq0 BK185.out) hb) (below_step zq43 hb); clear BK184 BK185 HB; obtain ⟨BK184, BK185, HB⟩ := n_; (try clear hb); (try clear hb2); (try clear hk); (try clear hi)))
        repeat (go_quiet (first | (go_at_call 60; (with_reducible refine (ih kj16 (by have := HJ16.out; omega) a1_1 (wrap64 (a1_0 - (wrap64 (t187 * a1_1)))) a0_1 (wrap64 (a0_0 - (wrap64 (t186 * a0_1)))) t188 _ A27.out).mono ?_); rintro e w31 ⟨rfl, hb⟩; have n_ := as3 (blk_below (zq0 BK184.out) hb) (blk_below (zq0 BK185.out) hb) (below_step zq43 hb); clear BK184 BK185 HB; obtain ⟨BK184, BK185, HB⟩ := n_; (try clear hb); (try clear hb2); (try clear hk); (try clear hi))); try go_wp2_with (first | (go_at_call 60; (with_reducible refine (ih kj16 (by have := HJ16.out; omega) a1_1 (wrap64 (a1_0 - (wrap64 (t187 * a1_1)))) a0_1 (wrap64 (a0_0 - (wrap64 (t186 * a0_1)))) t188 _ A27.out).mono ?_); rintro e w31 ⟨rfl, hb⟩; have n_ := as3 (blk_below (zq0 BK184.out) hb) (blk_below (zq0 BK185.out) hb) (below_step zq43 hb); clear BK184 BK185 HB; obtain ⟨BK184, BK185, HB⟩ := n_; (try clear hb); (try clear hb2); (try clear hk); (try clear hi))))
        go_ret
        exact ⟨zq9, zq43⟩
end Go.Proofs.Ytbpebehbfpgjbaa.P
end
