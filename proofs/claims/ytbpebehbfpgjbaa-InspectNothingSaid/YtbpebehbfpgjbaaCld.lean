/- Texts of the proof, joined: what they prove stands at each theorem. -/
import Derived.Test.YtbpebehbfpgjbaaClb
import Derived.Test.YtbpebehbfpgjbaaClc
section
namespace Go.Proofs.Ytbpebehbfpgjbaa.P
open Go.RowKit Go.Proofs.YtbpebehbfpgjbaaW.PrintWords Go.Proofs.YtbpebehbfpgjbaaW.PrintLast Go.Proofs.YtbpebehbfpgjbaaW.PrintMore
attribute [local go_sem] max2_int min2_int max_two min_two max_three min_three max_four min_four
set_option linter.unusedVariables false
set_option linter.unusedSimpArgs false
def inspect_claimsError.l0 : Nat → List (S68) → List (S68) → Int → Int → Int → List (S58) → List (S56) → Option (Int)
 | 0, _, _, _, _, _, _, _ => none
 | k + 1, x1, x10, x11, x12, x345000, x345001, x345002 => if x12 < x11 then (if 0 ≤ x12 then (if x12 < (x10.length : Int) then ((inspect_within.f ((rd_T68 x10 x12).f0) 0 (wrap64 ((x345001.length : Int) - 1))).bind fun t347 => (if t347 = true then (if x12 ≤ (x1.length : Int) then ((HasClaim.f (x1.take (x12 : Int).toNat) ((rd_T68 x10 x12).f0) ((rd_T68 x10 x12).f1) ((rd_T68 x10 x12).f2)).bind fun t352 => (if t352 = true then (some 6) else ((inspect_within.f ((rd_T68 x10 x12).f2) 1 1000).bind fun t353 => (if t353 = true then ((inspect_within.f ((rd_T68 x10 x12).f1) 0 ((rd_T68 x10 x12).f2)).bind fun t354 => (if t354 = true then (inspect_claimsError.l0 k x1 x10 x11 (wrap64 (x12 + 1)) x345000 x345001 x345002) else (some 1))) else (some 1))))) else (none)) else (some 7))) else (none)) else (none)) else (some 0)
def inspect_claimsError.f (k : Nat) (a0_0 : Int) (l0_1 : List (S58)) (l0_2 : List (S56)) (l1 : List (S68)) : Option (Int) := if (l1.length : Int) > 8 then (some 3) else (inspect_claimsError.l0 k l1 l1 (l1.length : Int) 0 a0_0 l0_1 l0_2)
set_option maxHeartbeats 8000000 in
set_option maxRecDepth 100000 in
theorem inspect_claimsError.calls (k : Nat) (a0_0 : Int) (A0_1 : Option Addr) (c0_1 : Nat) (l0_1 : List (S58)) (A0_2 : Option Addr) (c0_2 : Nat) (l0_2 : List (S56)) (A1 : Option Addr) (c1 : Nat) (l1 : List (S68)) (r : Int) (w : World) (hr0_1 : Kd.C k58 w A0_1 l0_1.length l0_1) (hc0_1 : l0_1.length ≤ c0_1) (hr0_2 : Kd.C k56 w A0_2 l0_2.length l0_2) (hc0_2 : l0_2.length ≤ c0_2) (hr1 : Kd.C k68 w A1 l1.length l1) (hc1 : l1.length ≤ c1) (h : inspect_claimsError.f k a0_0 l0_1 l0_2 l1 = some r) :
  Calls Try.prog 76 #[.agg #[.int .i64 a0_0, .slice A0_1 l0_1.length c0_1, .slice A0_2 l0_2.length c0_2], .slice A1 l1.length c1] w fun e w' => e = .returned (.int .i64 r) ∧ Below w.heap.size w w' := by
 have hu25 := Try.underlying25
 have hu68 := Try.underlying68
 have HR0_1 := Aside0.mk hr0_1
 have HC0_1 := Aside0.mk hc0_1
 clear hr0_1 hc0_1
 have HR0_2 := Aside0.mk hr0_2
 have HC0_2 := Aside0.mk hc0_2
 clear hr0_2 hc0_2
 have HR1 := Aside0.mk hr1
 have HC1 := Aside0.mk hc1
 clear hr1 hc1
 have HB := Aside0.mk (Below.refl w.heap.size w)
 have H : (if (l1.length : Int) > 8 then (some 3) else (inspect_claimsError.l0 k l1 l1 (l1.length : Int) 0 a0_0 l0_1 l0_2)) = some r := h
 clear h
 by_cases c3 : (l1.length : Int) > 8
 ·rw [if_pos c3] at H
  have c3b0 : decide (8 < (l1.length : Int)) = true := decide_eq_true c3
  have c3b1 : decide (8 < l1.length) = true := decide_eq_true zq18
  clear c3
  obtain rfl := Option.some.inj H
  go_enter Try.func76, Try.ntmps76
  go_wp2_with (first | ((with_reducible refine gate_dst (N := 2) rfl ?_); refine box_event ?hg (N := 2) ?hd (cs := #[.int .i64 a0_0, .slice A0_1 l0_1.length c0_1, .slice A0_2 l0_2.length c0_2]) (t := 25) ?hr ?_; (case hd => rfl); (case hg => rfl); (case hr => exact zq13); intro gb344 hg w4 hbox hb; have n_ := as4 (below_step zq2 hb) (hbox) ((zq23 : w.heap.size ≤ gb344)) ((zq23 : w.heap.size ≤ gb344)); clear HB hb hbox hg; obtain ⟨HB, BK344, GW344, GE344⟩ := n_))
  go_ret
  exact ⟨zq9, zq14⟩
 ·rw [if_neg c3] at H
  have c3b0 : decide (8 < (l1.length : Int)) = false := decide_eq_false c3
  have c3b1 : decide (8 < l1.length) = false := decide_eq_false zq18
  clear c3
  have H' := Aside0.mk H
  clear H
  go_enter Try.func76, Try.ntmps76
  go_wp2_with (first | ((with_reducible refine gate_dst (N := 2) rfl ?_); refine box_event ?hg (N := 2) ?hd (cs := #[.int .i64 a0_0, .slice A0_1 l0_1.length c0_1, .slice A0_2 l0_2.length c0_2]) (t := 25) ?hr ?_; (case hd => rfl); (case hg => rfl); (case hr => exact zq13); intro gb344 hg w5 hbox hb; have n_ := as4 (below_step zq2 hb) (hbox) ((zq23 : w.heap.size ≤ gb344)) ((zq23 : w.heap.size ≤ gb344)); clear HB hb hbox hg; obtain ⟨HB, BK344, GW344, GE344⟩ := n_))
  go_loopg [12] k (fun kq v12 w' => ∃ (x12_1 : Int), v12 = .int .i64 x12_1 ∧ Aside0 (inspect_claimsError.l0 kq l1 l1 (l1.length : Int) x12_1 a0_0 l0_1 l0_2 = some r) ∧ Aside0 (kq ≤ k) ∧ Aside0 (w'.heap[gb344]? = some (.cells #[.int .i64 a0_0, (.slice A0_1 l0_1.length c0_1), (.slice A0_2 l0_2.length c0_2)] 25 (0, 0))) ∧ Aside0 (Below w.heap.size w w'))
  case atStart => exact ⟨(0), zq20, H', ⟨Nat.le_refl _⟩, ⟨(zq0 BK344.out)⟩, ⟨zq14⟩⟩
  case round =>
   clear H'
   try clear c1
   try clear p2
   try clear c3
   try clear c3b0
   try clear c3b1
   obtain ⟨x12_1, rfl, HA, HK1, BK344, HB⟩ := hrel
   cases gk with
   | zero => exact absurd HA.out (by simp [inspect_claimsError.l0])
   | succ k1 =>
    have H := HA.out
    clear HA
    simp only [inspect_claimsError.l0] at H
    by_cases c6 : x12_1 < (l1.length : Int)
    ·rw [if_pos c6] at H
     have c6b0 : decide (x12_1 < (l1.length : Int)) = true := decide_eq_true c6
     clear c6
     by_cases c7 : 0 ≤ x12_1
     ·rw [if_pos c7] at H
      have c7b0 : decide (0 ≤ x12_1) = true := decide_eq_true c7
      clear c7
      by_cases c8 : x12_1 < (l1.length : Int)
      ·rw [if_pos c8] at H
       have c8b0 : decide (x12_1 < (l1.length : Int)) = true := decide_eq_true c8
       clear c8
       replace H := Option.bind_eq_some_iff.mp H
       obtain ⟨t347, A90, H⟩ := H
       replace H : (if t347 = true then (if x12_1 ≤ (l1.length : Int) then ((HasClaim.f (l1.take (x12_1 : Int).toNat) ((rd_T68 l1 x12_1).f0) ((rd_T68 l1 x12_1).f1) ((rd_T68 l1 x12_1).f2)).bind fun t352 => (if t352 = true then (some 6) else ((inspect_within.f ((rd_T68 l1 x12_1).f2) 1 1000).bind fun t353 => (if t353 = true then ((inspect_within.f ((rd_T68 l1 x12_1).f1) 0 ((rd_T68 l1 x12_1).f2)).bind fun t354 => (if t354 = true then (inspect_claimsError.l0 k1 l1 l1 (l1.length : Int) (wrap64 (x12_1 + 1)) a0_0 l0_1 l0_2) else (some 1))) else (some 1))))) else (none)) else (some 7)) = some r := H
       have A9 := Aside0.mk A90
       clear A90
       by_cases c10 : t347 = true
       ·subst c10
        have H1 : (if x12_1 ≤ (l1.length : Int) then ((HasClaim.f (l1.take (x12_1 : Int).toNat) ((rd_T68 l1 x12_1).f0) ((rd_T68 l1 x12_1).f1) ((rd_T68 l1 x12_1).f2)).bind fun t352 => (if t352 = true then (some 6) else ((inspect_within.f ((rd_T68 l1 x12_1).f2) 1 1000).bind fun t353 => (if t353 = true then ((inspect_within.f ((rd_T68 l1 x12_1).f1) 0 ((rd_T68 l1 x12_1).f2)).bind fun t354 => (if t354 = true then (inspect_claimsError.l0 k1 l1 l1 (l1.length : Int) (wrap64 (x12_1 + 1)) a0_0 l0_1 l0_2) else (some 1))) else (some 1))))) else (none)) = some r := by rw [if_pos rfl] at H; exact H
        clear H
        have H := H1
        clear H1
        have c11b0 := eq_true (of_decide_eq_true zq5 : 0 ≤ x12_1)
        by_cases c12 : x12_1 ≤ (l1.length : Int)
        ·rw [if_pos c12] at H
         have c12b0 := eq_true c12
         have c12b1 : decide (x12_1 ≤ (l1.length : Int)) = true := decide_eq_true c12
         clear c12
         obtain ⟨y348, hy348⟩ : ∃ y_ : List (S68), y_ = (l1.take (x12_1 : Int).toNat) := ⟨_, rfl⟩
         replace H : ((HasClaim.f y348 ((rd_T68 l1 x12_1).f0) ((rd_T68 l1 x12_1).f1) ((rd_T68 l1 x12_1).f2)).bind fun t352 => (if t352 = true then (some 6) else ((inspect_within.f ((rd_T68 l1 x12_1).f2) 1 1000).bind fun t353 => (if t353 = true then ((inspect_within.f ((rd_T68 l1 x12_1).f1) 0 ((rd_T68 l1 x12_1).f2)).bind fun t354 => (if t354 = true then (inspect_claimsError.l0 k1 l1 l1 (l1.length : Int) (wrap64 (x12_1 + 1)) a0_0 l0_1 l0_2) else (some 1))) else (some 1))))) = some r := by first | (rw [hy348]; with_reducible exact H) | (have H2_ := (Option.bind_some _ _).symm.trans H; rw [hy348]; with_reducible exact H2_) | (have H2_ := (Option.bind_some _ _).symm.trans H; with_reducible exact H2_) | with_reducible exact H | (rw [hy348]; exact H) | exact H
         have Ny348 := Aside0.mk hy348
         clear hy348
         replace H := Option.bind_eq_some_iff.mp H
         obtain ⟨t352, A130, H⟩ := H
         replace H : (if t352 = true then (some 6) else ((inspect_within.f ((rd_T68 l1 x12_1).f2) 1 1000).bind fun t353 => (if t353 = true then ((inspect_within.f ((rd_T68 l1 x12_1).f1) 0 ((rd_T68 l1 x12_1).f2)).bind fun t354 => (if t354 = true then (inspect_claimsError.l0 k1 l1 l1 (l1.length : Int) (wrap64 (x12_1 + 1)) a0_0 l0_1 l0_2) else (some 1))) else (some 1)))) = some r := H
         have A13 := Aside0.mk A130
         clear A130
         by_cases c14 : t352 = true
         ·subst c14
          have H1 : (some 6) = some r := by rw [if_pos rfl] at H; exact H
          clear H
          have H := H1
          clear H1
          obtain rfl := Option.some.inj H
          have p345 : 0 ≤ (x12_1 : Int) := of_decide_eq_true zq5
          have q345 : x12_1 < (l1.length : Int) := of_decide_eq_true zq5
          obtain ⟨ad345, e345, hx345_0, hx345_1, hx345_2⟩ := at_T68 HR1.out x12_1 p345 q345
          cases e345
          replace hx345_0 := hcx HB.out hx345_0
          replace hx345_1 := hcx HB.out hx345_1
          replace hx345_2 := hcx HB.out hx345_2
          replace p345 := eq_true p345
          replace q345 := eq_true q345
          go_wp2_with (first | ((with_reducible refine gate_dst (N := 6) rfl ?_); refine box_event ?hg (N := 6) ?hd (cs := #[.int .i64 0, .int .i64 0, .int .i64 0]) (t := 68) ?hr ?_; (case hd => rfl); (case hg => rfl); (case hr => exact zq13); intro gb346 hg w15 hbox hb; have n_ := as7 (blk_below (zq0 BK344.out) hb) (below_step zq14 hb) (hbox) ((zq47 : w.heap.size ≤ gb346)) ((zq47 : w.heap.size ≤ gb346)) ((zq52 : gb344 ≠ gb346)) ((zq53 : gb346 ≠ gb344)); clear BK344 HB hb hbox hg; obtain ⟨BK344, HB, BK346, GW346, GE346, NB344_346, NB346_344⟩ := n_; have hnb16 := NB346_344.out; have hnc16 := NB344_346.out; obtain ⟨hcz17_0, hcz17_1, hcz17_2, hfz17_0, hfz17_1, hfz17_2⟩ := bcs3 BK346.out) | ((with_reducible refine gate_store (t := 68) (p := 6) rfl ?_); refine store_event (t := 68) (p := 6) (v := ?vo_w18) (w1 := (((w15.setCell ⟨gb346, 0, none⟩ (.int .i64 ((rd_T68 l1 x12_1).f0))).setCell ⟨gb346, 1, none⟩ (.int .i64 ((rd_T68 l1 x12_1).f1))).setCell ⟨gb346, 2, none⟩ (.int .i64 ((rd_T68 l1 x12_1).f2)))) ?hg ?ho ?hn ?hr ?_; (case ho => rfl); (case hg => rfl); (case hn => rfl); (case hr => exact zq13); intro w18 hw; have n_ := as3 (zq64 : w18.heap[gb344]? = some (.cells #[.int .i64 a0_0, .slice A0_1 l0_1.length c0_1, .slice A0_2 l0_2.length c0_2] 25 (0, 0))) ((by rw [hw]; exact (bch0p BK346.out)) : w18.heap[gb346]? = some (.cells #[.int .i64 ((rd_T68 l1 x12_1).f0), .int .i64 ((rd_T68 l1 x12_1).f1), .int .i64 ((rd_T68 l1 x12_1).f2)] 68 (0, 0))) ((by rw [hw]; exact zq12) : Below w.heap.size w w18); clear hw BK344 BK346 HB; obtain ⟨BK344, BK346, HB⟩ := n_; obtain ⟨hcz19_0, hcz19_1, hcz19_2, hfz19_0, hfz19_1, hfz19_2⟩ := bcs3 BK346.out; obtain ⟨hcz20_0, hcz20_1, hcz20_2, hfz20_0, hfz20_1, hfz20_2⟩ := bcs3 BK344.out) | ((with_reducible refine gate_callee (f := 36) rfl ?_); refine goesL_ (some 24) rfl rfl Try.func36 zq26 rfl #[.int .i64 ((rd_T68 l1 x12_1).f0), .int .i64 0, .int .i64 (wrap64 ((l0_1.length : Int) - 1))] rfl zq3 ?_; (with_reducible refine (inspect_within.calls ((rd_T68 l1 x12_1).f0) 0 (wrap64 ((l0_1.length : Int) - 1)) true _ A9.out).mono ?_); rintro e w' ⟨rfl, ⟨nd, rfl⟩⟩; refine ⟨_, rfl, ?_⟩; have q21 : (x12_1 : Int) ≤ ((l1.length : Int) : Int) := of_decide_eq_true zq5; obtain ⟨i021, hi021, _, hsz21, _⟩ := info_parts info68; have hroom21 : l1.length ≤ c1 := HC1.out; have hC21 : Kd.C k68 _ (some ad345) l1.length l1 := HR1.out; have hcut21 := cut_to (P := Try.prog) 54 68 .i64 Try.underlying54 hi021 (some ad345) l1.length c1 x12_1 (of_decide_eq_true zq5) q21 hroom21; have hr21 := Kd.C_take (m := (x12_1 : Int).toNat) hC21 zq18; have hy21 : y348.length = (x12_1 : Int).toNat := zq65; rw [← Ny348.out] at hr21; rw [← hy21] at hcut21; have HR351 := Aside0.mk hr21; have HC351 := Aside0.mk (show y348.length ≤ c1 from by omega); clear hr21 hC21 hroom21 hi021 hsz21; have KY21 := Aside0.mk hy21; clear hy21; replace q21 := eq_true q21) | ((with_reducible refine gate_callee (f := 86) rfl ?_); refine goesL_ (some 31) rfl rfl Try.func86 zq26 rfl #[.slice (some ad345) y348.length c1, .func (.func 87) #[] #[.pointer (some ⟨gb346, 0, none⟩)]] rfl zq3 ?_; (with_reducible refine (HasClaim.calls _ _ y348 gb346 ((rd_T68 l1 x12_1).f0) ((rd_T68 l1 x12_1).f1) ((rd_T68 l1 x12_1).f2) true _ ?side1 ?side2 ?side3 A13.out).mono ?_); (case side1 => exact zq35); (case side2 => exact HC351.out); (case side3 => exact (zq0 BK346.out)); rintro e w22 ⟨rfl, hb⟩; refine ⟨_, rfl, ?_⟩; have n_ := as3 (blk_below (zq0 BK344.out) hb) (blk_below (zq0 BK346.out) hb) (below_step zq12 hb); clear BK344 BK346 HB; obtain ⟨BK344, BK346, HB⟩ := n_; (try clear hb); (try clear hb2); (try clear hk); (try clear hi)))
          go_ret
          exact ⟨zq9, zq12⟩
         ·replace c14 := Bool.eq_false_iff.mpr c14
          subst c14
          have H1 : ((inspect_within.f ((rd_T68 l1 x12_1).f2) 1 1000).bind fun t353 => (if t353 = true then ((inspect_within.f ((rd_T68 l1 x12_1).f1) 0 ((rd_T68 l1 x12_1).f2)).bind fun t354 => (if t354 = true then (inspect_claimsError.l0 k1 l1 l1 (l1.length : Int) (wrap64 (x12_1 + 1)) a0_0 l0_1 l0_2) else (some 1))) else (some 1))) = some r := by rw [if_neg (show ¬ (false = true) by decide)] at H; exact H
          clear H
          have H := H1
          clear H1
          replace H := Option.bind_eq_some_iff.mp H
          obtain ⟨t353, A230, H⟩ := H
          replace H : (if t353 = true then ((inspect_within.f ((rd_T68 l1 x12_1).f1) 0 ((rd_T68 l1 x12_1).f2)).bind fun t354 => (if t354 = true then (inspect_claimsError.l0 k1 l1 l1 (l1.length : Int) (wrap64 (x12_1 + 1)) a0_0 l0_1 l0_2) else (some 1))) else (some 1)) = some r := H
          have A23 := Aside0.mk A230
          clear A230
          by_cases c24 : t353 = true
          ·subst c24
           have H1 : ((inspect_within.f ((rd_T68 l1 x12_1).f1) 0 ((rd_T68 l1 x12_1).f2)).bind fun t354 => (if t354 = true then (inspect_claimsError.l0 k1 l1 l1 (l1.length : Int) (wrap64 (x12_1 + 1)) a0_0 l0_1 l0_2) else (some 1))) = some r := by rw [if_pos rfl] at H; exact H
           clear H
           have H := H1
           clear H1
           replace H := Option.bind_eq_some_iff.mp H
           obtain ⟨t354, A250, H⟩ := H
           replace H : (if t354 = true then (inspect_claimsError.l0 k1 l1 l1 (l1.length : Int) (wrap64 (x12_1 + 1)) a0_0 l0_1 l0_2) else (some 1)) = some r := H
           have A25 := Aside0.mk A250
           clear A250
           by_cases c26 : t354 = true
           ·subst c26
            have H1 : (inspect_claimsError.l0 k1 l1 l1 (l1.length : Int) (wrap64 (x12_1 + 1)) a0_0 l0_1 l0_2) = some r := by rw [if_pos rfl] at H; exact H
            clear H
            have H := H1
            clear H1
            have H' := Aside0.mk H
            clear H
            have p345 : 0 ≤ (x12_1 : Int) := of_decide_eq_true zq5
            have q345 : x12_1 < (l1.length : Int) := of_decide_eq_true zq5
            obtain ⟨ad345, e345, hx345_0, hx345_1, hx345_2⟩ := at_T68 HR1.out x12_1 p345 q345
            cases e345
            replace hx345_0 := hcx HB.out hx345_0
            replace hx345_1 := hcx HB.out hx345_1
            replace hx345_2 := hcx HB.out hx345_2
            replace p345 := eq_true p345
            replace q345 := eq_true q345
            go_wp2_with (first | ((with_reducible refine gate_dst (N := 6) rfl ?_); refine box_event ?hg (N := 6) ?hd (cs := #[.int .i64 0, .int .i64 0, .int .i64 0]) (t := 68) ?hr ?_; (case hd => rfl); (case hg => rfl); (case hr => exact zq13); intro gb346 hg w27 hbox hb; have n_ := as7 (blk_below (zq0 BK344.out) hb) (below_step zq14 hb) (hbox) ((zq47 : w.heap.size ≤ gb346)) ((zq47 : w.heap.size ≤ gb346)) ((zq52 : gb344 ≠ gb346)) ((zq53 : gb346 ≠ gb344)); clear BK344 HB hb hbox hg; obtain ⟨BK344, HB, BK346, GW346, GE346, NB344_346, NB346_344⟩ := n_; have hnb28 := NB346_344.out; have hnc28 := NB344_346.out; obtain ⟨hcz29_0, hcz29_1, hcz29_2, hfz29_0, hfz29_1, hfz29_2⟩ := bcs3 BK346.out) | ((with_reducible refine gate_store (t := 68) (p := 6) rfl ?_); refine store_event (t := 68) (p := 6) (v := ?vo_w30) (w1 := (((w27.setCell ⟨gb346, 0, none⟩ (.int .i64 ((rd_T68 l1 x12_1).f0))).setCell ⟨gb346, 1, none⟩ (.int .i64 ((rd_T68 l1 x12_1).f1))).setCell ⟨gb346, 2, none⟩ (.int .i64 ((rd_T68 l1 x12_1).f2)))) ?hg ?ho ?hn ?hr ?_; (case ho => rfl); (case hg => rfl); (case hn => rfl); (case hr => exact zq13); intro w30 hw; have n_ := as3 (zq64 : w30.heap[gb344]? = some (.cells #[.int .i64 a0_0, .slice A0_1 l0_1.length c0_1, .slice A0_2 l0_2.length c0_2] 25 (0, 0))) ((by rw [hw]; exact (bch0p BK346.out)) : w30.heap[gb346]? = some (.cells #[.int .i64 ((rd_T68 l1 x12_1).f0), .int .i64 ((rd_T68 l1 x12_1).f1), .int .i64 ((rd_T68 l1 x12_1).f2)] 68 (0, 0))) ((by rw [hw]; exact zq12) : Below w.heap.size w w30); clear hw BK344 BK346 HB; obtain ⟨BK344, BK346, HB⟩ := n_; obtain ⟨hcz31_0, hcz31_1, hcz31_2, hfz31_0, hfz31_1, hfz31_2⟩ := bcs3 BK346.out; obtain ⟨hcz32_0, hcz32_1, hcz32_2, hfz32_0, hfz32_1, hfz32_2⟩ := bcs3 BK344.out) | ((with_reducible refine gate_callee (f := 36) rfl ?_); refine goesL_ (some 24) rfl rfl Try.func36 zq26 rfl #[.int .i64 ((rd_T68 l1 x12_1).f0), .int .i64 0, .int .i64 (wrap64 ((l0_1.length : Int) - 1))] rfl zq3 ?_; (with_reducible refine (inspect_within.calls ((rd_T68 l1 x12_1).f0) 0 (wrap64 ((l0_1.length : Int) - 1)) true _ A9.out).mono ?_); rintro e w' ⟨rfl, ⟨nd, rfl⟩⟩; refine ⟨_, rfl, ?_⟩; have q33 : (x12_1 : Int) ≤ ((l1.length : Int) : Int) := of_decide_eq_true zq5; obtain ⟨i033, hi033, _, hsz33, _⟩ := info_parts info68; have hroom33 : l1.length ≤ c1 := HC1.out; have hC33 : Kd.C k68 _ (some ad345) l1.length l1 := HR1.out; have hcut33 := cut_to (P := Try.prog) 54 68 .i64 Try.underlying54 hi033 (some ad345) l1.length c1 x12_1 (of_decide_eq_true zq5) q33 hroom33; have hr33 := Kd.C_take (m := (x12_1 : Int).toNat) hC33 zq18; have hy33 : y348.length = (x12_1 : Int).toNat := zq65; rw [← Ny348.out] at hr33; rw [← hy33] at hcut33; have HR351 := Aside0.mk hr33; have HC351 := Aside0.mk (show y348.length ≤ c1 from by omega); clear hr33 hC33 hroom33 hi033 hsz33; have KY33 := Aside0.mk hy33; clear hy33; replace q33 := eq_true q33) | ((with_reducible refine gate_callee (f := 86) rfl ?_); refine goesL_ (some 31) rfl rfl Try.func86 zq26 rfl #[.slice (some ad345) y348.length c1, .func (.func 87) #[] #[.pointer (some ⟨gb346, 0, none⟩)]] rfl zq3 ?_; (with_reducible refine (HasClaim.calls _ _ y348 gb346 ((rd_T68 l1 x12_1).f0) ((rd_T68 l1 x12_1).f1) ((rd_T68 l1 x12_1).f2) false _ ?side1 ?side2 ?side3 A13.out).mono ?_); (case side1 => exact zq35); (case side2 => exact HC351.out); (case side3 => exact (zq0 BK346.out)); rintro e w34 ⟨rfl, hb⟩; refine ⟨_, rfl, ?_⟩; have n_ := as3 (blk_below (zq0 BK344.out) hb) (blk_below (zq0 BK346.out) hb) (below_step zq12 hb); clear BK344 BK346 HB; obtain ⟨BK344, BK346, HB⟩ := n_; (try clear hb); (try clear hb2); (try clear hk); (try clear hi); obtain ⟨hcz35_0, hcz35_1, hcz35_2, hfz35_0, hfz35_1, hfz35_2⟩ := bcs3 BK346.out) | ((with_reducible refine gate_callee (f := 36) rfl ?_); refine goesL_ (some 35) rfl rfl Try.func36 zq26 rfl #[.int .i64 ((rd_T68 l1 x12_1).f2), .int .i64 1, .int .i64 1000] rfl zq3 ?_; (with_reducible refine (inspect_within.calls ((rd_T68 l1 x12_1).f2) 1 1000 true _ A23.out).mono ?_); rintro e w' ⟨rfl, ⟨nd, rfl⟩⟩; refine ⟨_, rfl, ?_⟩) | (go_at_call 36; (with_reducible refine (inspect_within.calls ((rd_T68 l1 x12_1).f1) 0 ((rd_T68 l1 x12_1).f2) true _ A25.out).mono ?_); rintro e w' ⟨rfl, ⟨nd, rfl⟩⟩))
            go_roundg k1
            case measure => have := HK1.out; omega
            case rel => exact ⟨(wrap64 (x12_1 + 1)), zq20, H', ⟨by have := HK1.out; omega⟩, ⟨(zq0 BK344.out)⟩, ⟨zq12⟩⟩
           ·replace c26 := Bool.eq_false_iff.mpr c26
            subst c26
            have H1 : (some 1) = some r := by rw [if_neg (show ¬ (false = true) by decide)] at H; exact H
            clear H
            have H := H1
            clear H1
            obtain rfl := Option.some.inj H
            have p345 : 0 ≤ (x12_1 : Int) := of_decide_eq_true zq5
            have q345 : x12_1 < (l1.length : Int) := of_decide_eq_true zq5
            obtain ⟨ad345, e345, hx345_0, hx345_1, hx345_2⟩ := at_T68 HR1.out x12_1 p345 q345
            cases e345
            replace hx345_0 := hcx HB.out hx345_0
            replace hx345_1 := hcx HB.out hx345_1
            replace hx345_2 := hcx HB.out hx345_2
            replace p345 := eq_true p345
            replace q345 := eq_true q345
            go_wp2_with (first | ((with_reducible refine gate_dst (N := 6) rfl ?_); refine box_event ?hg (N := 6) ?hd (cs := #[.int .i64 0, .int .i64 0, .int .i64 0]) (t := 68) ?hr ?_; (case hd => rfl); (case hg => rfl); (case hr => exact zq13); intro gb346 hg w36 hbox hb; have n_ := as7 (blk_below (zq0 BK344.out) hb) (below_step zq14 hb) (hbox) ((zq47 : w.heap.size ≤ gb346)) ((zq47 : w.heap.size ≤ gb346)) ((zq52 : gb344 ≠ gb346)) ((zq53 : gb346 ≠ gb344)); clear BK344 HB hb hbox hg; obtain ⟨BK344, HB, BK346, GW346, GE346, NB344_346, NB346_344⟩ := n_; have hnb37 := NB346_344.out; have hnc37 := NB344_346.out; obtain ⟨hcz38_0, hcz38_1, hcz38_2, hfz38_0, hfz38_1, hfz38_2⟩ := bcs3 BK346.out) | ((with_reducible refine gate_store (t := 68) (p := 6) rfl ?_); refine store_event (t := 68) (p := 6) (v := ?vo_w39) (w1 := (((w36.setCell ⟨gb346, 0, none⟩ (.int .i64 ((rd_T68 l1 x12_1).f0))).setCell ⟨gb346, 1, none⟩ (.int .i64 ((rd_T68 l1 x12_1).f1))).setCell ⟨gb346, 2, none⟩ (.int .i64 ((rd_T68 l1 x12_1).f2)))) ?hg ?ho ?hn ?hr ?_; (case ho => rfl); (case hg => rfl); (case hn => rfl); (case hr => exact zq13); intro w39 hw; have n_ := as3 (zq64 : w39.heap[gb344]? = some (.cells #[.int .i64 a0_0, .slice A0_1 l0_1.length c0_1, .slice A0_2 l0_2.length c0_2] 25 (0, 0))) ((by rw [hw]; exact (bch0p BK346.out)) : w39.heap[gb346]? = some (.cells #[.int .i64 ((rd_T68 l1 x12_1).f0), .int .i64 ((rd_T68 l1 x12_1).f1), .int .i64 ((rd_T68 l1 x12_1).f2)] 68 (0, 0))) ((by rw [hw]; exact zq12) : Below w.heap.size w w39); clear hw BK344 BK346 HB; obtain ⟨BK344, BK346, HB⟩ := n_; obtain ⟨hcz40_0, hcz40_1, hcz40_2, hfz40_0, hfz40_1, hfz40_2⟩ := bcs3 BK346.out; obtain ⟨hcz41_0, hcz41_1, hcz41_2, hfz41_0, hfz41_1, hfz41_2⟩ := bcs3 BK344.out) | ((with_reducible refine gate_callee (f := 36) rfl ?_); refine goesL_ (some 24) rfl rfl Try.func36 zq26 rfl #[.int .i64 ((rd_T68 l1 x12_1).f0), .int .i64 0, .int .i64 (wrap64 ((l0_1.length : Int) - 1))] rfl zq3 ?_; (with_reducible refine (inspect_within.calls ((rd_T68 l1 x12_1).f0) 0 (wrap64 ((l0_1.length : Int) - 1)) true _ A9.out).mono ?_); rintro e w' ⟨rfl, ⟨nd, rfl⟩⟩; refine ⟨_, rfl, ?_⟩; have q42 : (x12_1 : Int) ≤ ((l1.length : Int) : Int) := of_decide_eq_true zq5; obtain ⟨i042, hi042, _, hsz42, _⟩ := info_parts info68; have hroom42 : l1.length ≤ c1 := HC1.out; have hC42 : Kd.C k68 _ (some ad345) l1.length l1 := HR1.out; have hcut42 := cut_to (P := Try.prog) 54 68 .i64 Try.underlying54 hi042 (some ad345) l1.length c1 x12_1 (of_decide_eq_true zq5) q42 hroom42; have hr42 := Kd.C_take (m := (x12_1 : Int).toNat) hC42 zq18; have hy42 : y348.length = (x12_1 : Int).toNat := zq65; rw [← Ny348.out] at hr42; rw [← hy42] at hcut42; have HR351 := Aside0.mk hr42; have HC351 := Aside0.mk (show y348.length ≤ c1 from by omega); clear hr42 hC42 hroom42 hi042 hsz42; have KY42 := Aside0.mk hy42; clear hy42; replace q42 := eq_true q42) | ((with_reducible refine gate_callee (f := 86) rfl ?_); refine goesL_ (some 31) rfl rfl Try.func86 zq26 rfl #[.slice (some ad345) y348.length c1, .func (.func 87) #[] #[.pointer (some ⟨gb346, 0, none⟩)]] rfl zq3 ?_; (with_reducible refine (HasClaim.calls _ _ y348 gb346 ((rd_T68 l1 x12_1).f0) ((rd_T68 l1 x12_1).f1) ((rd_T68 l1 x12_1).f2) false _ ?side1 ?side2 ?side3 A13.out).mono ?_); (case side1 => exact zq35); (case side2 => exact HC351.out); (case side3 => exact (zq0 BK346.out)); rintro e w43 ⟨rfl, hb⟩; refine ⟨_, rfl, ?_⟩; have n_ := as3 (blk_below (zq0 BK344.out) hb) (blk_below (zq0 BK346.out) hb) (below_step zq12 hb); clear BK344 BK346 HB; obtain ⟨BK344, BK346, HB⟩ := n_; (try clear hb); (try clear hb2); (try clear hk); (try clear hi); obtain ⟨hcz44_0, hcz44_1, hcz44_2, hfz44_0, hfz44_1, hfz44_2⟩ := bcs3 BK346.out) | ((with_reducible refine gate_callee (f := 36) rfl ?_); refine goesL_ (some 35) rfl rfl Try.func36 zq26 rfl #[.int .i64 ((rd_T68 l1 x12_1).f2), .int .i64 1, .int .i64 1000] rfl zq3 ?_; (with_reducible refine (inspect_within.calls ((rd_T68 l1 x12_1).f2) 1 1000 true _ A23.out).mono ?_); rintro e w' ⟨rfl, ⟨nd, rfl⟩⟩; refine ⟨_, rfl, ?_⟩) | (go_at_call 36; (with_reducible refine (inspect_within.calls ((rd_T68 l1 x12_1).f1) 0 ((rd_T68 l1 x12_1).f2) false _ A25.out).mono ?_); rintro e w' ⟨rfl, ⟨nd, rfl⟩⟩))
            go_ret
            exact ⟨zq9, zq12⟩
          ·replace c24 := Bool.eq_false_iff.mpr c24
           subst c24
           have H1 : (some 1) = some r := by rw [if_neg (show ¬ (false = true) by decide)] at H; exact H
           clear H
           have H := H1
           clear H1
           obtain rfl := Option.some.inj H
           have p345 : 0 ≤ (x12_1 : Int) := of_decide_eq_true zq5
           have q345 : x12_1 < (l1.length : Int) := of_decide_eq_true zq5
           obtain ⟨ad345, e345, hx345_0, hx345_1, hx345_2⟩ := at_T68 HR1.out x12_1 p345 q345
           cases e345
           replace hx345_0 := hcx HB.out hx345_0
           replace hx345_1 := hcx HB.out hx345_1
           replace hx345_2 := hcx HB.out hx345_2
           replace p345 := eq_true p345
           replace q345 := eq_true q345
           go_wp2_with (first | ((with_reducible refine gate_dst (N := 6) rfl ?_); refine box_event ?hg (N := 6) ?hd (cs := #[.int .i64 0, .int .i64 0, .int .i64 0]) (t := 68) ?hr ?_; (case hd => rfl); (case hg => rfl); (case hr => exact zq13); intro gb346 hg w45 hbox hb; have n_ := as7 (blk_below (zq0 BK344.out) hb) (below_step zq14 hb) (hbox) ((zq47 : w.heap.size ≤ gb346)) ((zq47 : w.heap.size ≤ gb346)) ((zq52 : gb344 ≠ gb346)) ((zq53 : gb346 ≠ gb344)); clear BK344 HB hb hbox hg; obtain ⟨BK344, HB, BK346, GW346, GE346, NB344_346, NB346_344⟩ := n_; have hnb46 := NB346_344.out; have hnc46 := NB344_346.out; obtain ⟨hcz47_0, hcz47_1, hcz47_2, hfz47_0, hfz47_1, hfz47_2⟩ := bcs3 BK346.out) | ((with_reducible refine gate_store (t := 68) (p := 6) rfl ?_); refine store_event (t := 68) (p := 6) (v := ?vo_w48) (w1 := (((w45.setCell ⟨gb346, 0, none⟩ (.int .i64 ((rd_T68 l1 x12_1).f0))).setCell ⟨gb346, 1, none⟩ (.int .i64 ((rd_T68 l1 x12_1).f1))).setCell ⟨gb346, 2, none⟩ (.int .i64 ((rd_T68 l1 x12_1).f2)))) ?hg ?ho ?hn ?hr ?_; (case ho => rfl); (case hg => rfl); (case hn => rfl); (case hr => exact zq13); intro w48 hw; have n_ := as3 (zq64 : w48.heap[gb344]? = some (.cells #[.int .i64 a0_0, .slice A0_1 l0_1.length c0_1, .slice A0_2 l0_2.length c0_2] 25 (0, 0))) ((by rw [hw]; exact (bch0p BK346.out)) : w48.heap[gb346]? = some (.cells #[.int .i64 ((rd_T68 l1 x12_1).f0), .int .i64 ((rd_T68 l1 x12_1).f1), .int .i64 ((rd_T68 l1 x12_1).f2)] 68 (0, 0))) ((by rw [hw]; exact zq12) : Below w.heap.size w w48); clear hw BK344 BK346 HB; obtain ⟨BK344, BK346, HB⟩ := n_; obtain ⟨hcz49_0, hcz49_1, hcz49_2, hfz49_0, hfz49_1, hfz49_2⟩ := bcs3 BK346.out; obtain ⟨hcz50_0, hcz50_1, hcz50_2, hfz50_0, hfz50_1, hfz50_2⟩ := bcs3 BK344.out) | ((with_reducible refine gate_callee (f := 36) rfl ?_); refine goesL_ (some 24) rfl rfl Try.func36 zq26 rfl #[.int .i64 ((rd_T68 l1 x12_1).f0), .int .i64 0, .int .i64 (wrap64 ((l0_1.length : Int) - 1))] rfl zq3 ?_; (with_reducible refine (inspect_within.calls ((rd_T68 l1 x12_1).f0) 0 (wrap64 ((l0_1.length : Int) - 1)) true _ A9.out).mono ?_); rintro e w' ⟨rfl, ⟨nd, rfl⟩⟩; refine ⟨_, rfl, ?_⟩; have q51 : (x12_1 : Int) ≤ ((l1.length : Int) : Int) := of_decide_eq_true zq5; obtain ⟨i051, hi051, _, hsz51, _⟩ := info_parts info68; have hroom51 : l1.length ≤ c1 := HC1.out; have hC51 : Kd.C k68 _ (some ad345) l1.length l1 := HR1.out; have hcut51 := cut_to (P := Try.prog) 54 68 .i64 Try.underlying54 hi051 (some ad345) l1.length c1 x12_1 (of_decide_eq_true zq5) q51 hroom51; have hr51 := Kd.C_take (m := (x12_1 : Int).toNat) hC51 zq18; have hy51 : y348.length = (x12_1 : Int).toNat := zq65; rw [← Ny348.out] at hr51; rw [← hy51] at hcut51; have HR351 := Aside0.mk hr51; have HC351 := Aside0.mk (show y348.length ≤ c1 from by omega); clear hr51 hC51 hroom51 hi051 hsz51; have KY51 := Aside0.mk hy51; clear hy51; replace q51 := eq_true q51) | ((with_reducible refine gate_callee (f := 86) rfl ?_); refine goesL_ (some 31) rfl rfl Try.func86 zq26 rfl #[.slice (some ad345) y348.length c1, .func (.func 87) #[] #[.pointer (some ⟨gb346, 0, none⟩)]] rfl zq3 ?_; (with_reducible refine (HasClaim.calls _ _ y348 gb346 ((rd_T68 l1 x12_1).f0) ((rd_T68 l1 x12_1).f1) ((rd_T68 l1 x12_1).f2) false _ ?side1 ?side2 ?side3 A13.out).mono ?_); (case side1 => exact zq35); (case side2 => exact HC351.out); (case side3 => exact (zq0 BK346.out)); rintro e w52 ⟨rfl, hb⟩; refine ⟨_, rfl, ?_⟩; have n_ := as3 (blk_below (zq0 BK344.out) hb) (blk_below (zq0 BK346.out) hb) (below_step zq12 hb); clear BK344 BK346 HB; obtain ⟨BK344, BK346, HB⟩ := n_; (try clear hb); (try clear hb2); (try clear hk); (try clear hi); obtain ⟨hcz53_0, hcz53_1, hcz53_2, hfz53_0, hfz53_1, hfz53_2⟩ := bcs3 BK346.out) | ((with_reducible refine gate_callee (f := 36) rfl ?_); refine goesL_ (some 35) rfl rfl Try.func36 zq26 rfl #[.int .i64 ((rd_T68 l1 x12_1).f2), .int .i64 1, .int .i64 1000] rfl zq3 ?_; (with_reducible refine (inspect_within.calls ((rd_T68 l1 x12_1).f2) 1 1000 false _ A23.out).mono ?_); rintro e w' ⟨rfl, ⟨nd, rfl⟩⟩; refine ⟨_, rfl, ?_⟩))
           go_ret
           exact ⟨zq9, zq12⟩
        ·rw [if_neg c12] at H
         exact absurd H zq51
       ·replace c10 := Bool.eq_false_iff.mpr c10
        subst c10
        have H1 : (some 7) = some r := by rw [if_neg (show ¬ (false = true) by decide)] at H; exact H
        clear H
        have H := H1
        clear H1
        obtain rfl := Option.some.inj H
        have p345 : 0 ≤ (x12_1 : Int) := of_decide_eq_true zq5
        have q345 : x12_1 < (l1.length : Int) := of_decide_eq_true zq5
        obtain ⟨ad345, e345, hx345_0, hx345_1, hx345_2⟩ := at_T68 HR1.out x12_1 p345 q345
        cases e345
        replace hx345_0 := hcx HB.out hx345_0
        replace hx345_1 := hcx HB.out hx345_1
        replace hx345_2 := hcx HB.out hx345_2
        replace p345 := eq_true p345
        replace q345 := eq_true q345
        go_wp2_with (first | ((with_reducible refine gate_dst (N := 6) rfl ?_); refine box_event ?hg (N := 6) ?hd (cs := #[.int .i64 0, .int .i64 0, .int .i64 0]) (t := 68) ?hr ?_; (case hd => rfl); (case hg => rfl); (case hr => exact zq13); intro gb346 hg w54 hbox hb; have n_ := as7 (blk_below (zq0 BK344.out) hb) (below_step zq14 hb) (hbox) ((zq47 : w.heap.size ≤ gb346)) ((zq47 : w.heap.size ≤ gb346)) ((zq52 : gb344 ≠ gb346)) ((zq53 : gb346 ≠ gb344)); clear BK344 HB hb hbox hg; obtain ⟨BK344, HB, BK346, GW346, GE346, NB344_346, NB346_344⟩ := n_; have hnb55 := NB346_344.out; have hnc55 := NB344_346.out; obtain ⟨hcz56_0, hcz56_1, hcz56_2, hfz56_0, hfz56_1, hfz56_2⟩ := bcs3 BK346.out; obtain ⟨hcz57_0, hcz57_1, hcz57_2, hfz57_0, hfz57_1, hfz57_2⟩ := bcs3 BK344.out) | ((with_reducible refine gate_callee (f := 36) rfl ?_); refine goesL_ (some 24) rfl rfl Try.func36 zq26 rfl #[.int .i64 ((rd_T68 l1 x12_1).f0), .int .i64 0, .int .i64 (wrap64 ((l0_1.length : Int) - 1))] rfl zq3 ?_; (with_reducible refine (inspect_within.calls ((rd_T68 l1 x12_1).f0) 0 (wrap64 ((l0_1.length : Int) - 1)) false _ A9.out).mono ?_); rintro e w' ⟨rfl, ⟨nd, rfl⟩⟩; refine ⟨_, rfl, ?_⟩))
        go_ret
        exact ⟨zq9, zq12⟩
      ·rw [if_neg c8] at H
       exact absurd H zq51
     ·rw [if_neg c7] at H
      exact absurd H zq51
    ·rw [if_neg c6] at H
     have c6b0 : decide (x12_1 < (l1.length : Int)) = false := decide_eq_false c6
     clear c6
     obtain rfl := Option.some.inj H
     go_wp2
     go_ret
     exact ⟨zq9, zq14⟩
mutual
def inspect_Check.l0 : Nat → List (S58) → Int → Int → Int → List (S58) → List (S56) → Option (Int)
 | 0, _, _, _, _, _, _ => none
 | k + 1, x19, x20, x21, x356000, x356001, x356002 => if x21 < x20 then (if 0 ≤ x21 then (if x21 < (x19.length : Int) then ((inspect_isName.f k ((rd_T58 x19 x21).f0)).bind fun t359 => (if t359 = true then (if x21 ≤ (x356001.length : Int) then ((HasFlaw.f (x356001.take (x21 : Int).toNat) ((rd_T58 x19 x21).f0) ((rd_T58 x19 x21).f1)).bind fun t364 => (if t364 = true then (some 6) else ((inspect_within.f ((rd_T58 x19 x21).f1) 0 4).bind fun t365 => (if t365 = true then (inspect_Check.l0 k x19 x20 (wrap64 (x21 + 1)) x356000 x356001 x356002) else (some 1))))) else (none)) else (some 5))) else (none)) else (none)) else (if (x356002.length : Int) > 4 then (some 3) else (inspect_Check.l1 k x356002 (x356002.length : Int) 0 x356000 x356001 x356002))
def inspect_Check.l1 : Nat → List (S56) → Int → Int → Int → List (S58) → List (S56) → Option (Int)
 | 0, _, _, _, _, _, _ => none
 | k + 1, x49, x50, x51, x356000, x356001, x356002 => if x51 < x50 then (if 0 ≤ x51 then (if x51 < (x49.length : Int) then ((inspect_isName.f k ((rd_T56 x49 x51).f0)).bind fun t368 => (if t368 = true then (if x51 ≤ (x356002.length : Int) then ((HasStand.f (x356002.take (x51 : Int).toNat) ((rd_T56 x49 x51).f0) ((rd_T56 x49 x51).f1)).bind fun t373 => (if t373 = true then (some 6) else ((inspect_claimsError.f k x356000 x356001 x356002 ((rd_T56 x49 x51).f1)).bind fun t374 => (if t374 = 0 then (inspect_Check.l1 k x49 x50 (wrap64 (x51 + 1)) x356000 x356001 x356002) else (some t374))))) else (none)) else (some 5))) else (none)) else (none)) else (some 0)
end
def inspect_Check.f (k : Nat) (a0_0 : Int) (l0_1 : List (S58)) (l0_2 : List (S56)) : Option (Int) := (inspect_within.f a0_0 1 1000000000).bind fun t356 => (if t356 = true then (if (l0_1.length : Int) > 8 then (some 3) else (inspect_Check.l0 k l0_1 (l0_1.length : Int) 0 a0_0 l0_1 l0_2)) else (some 1))
set_option maxHeartbeats 8000000 in
set_option maxRecDepth 100000 in
theorem inspect_Check.calls (k : Nat) (a0_0 : Int) (A0_1 : Option Addr) (c0_1 : Nat) (l0_1 : List (S58)) (A0_2 : Option Addr) (c0_2 : Nat) (l0_2 : List (S56)) (r : Int) (w : World) (hr0_1 : Kd.C k58 w A0_1 l0_1.length l0_1) (hc0_1 : l0_1.length ≤ c0_1) (hr0_2 : Kd.C k56 w A0_2 l0_2.length l0_2) (hc0_2 : l0_2.length ≤ c0_2) (h : inspect_Check.f k a0_0 l0_1 l0_2 = some r) :
  Calls Try.prog 48 #[.agg #[.int .i64 a0_0, .slice A0_1 l0_1.length c0_1, .slice A0_2 l0_2.length c0_2]] w fun e w' => e = .returned (.int .i64 r) ∧ Below w.heap.size w w' := by
 have hu25 := Try.underlying25
 have hu58 := Try.underlying58
 have hu56 := Try.underlying56
 have HR0_1 := Aside0.mk hr0_1
 have HC0_1 := Aside0.mk hc0_1
 clear hr0_1 hc0_1
 have HR0_2 := Aside0.mk hr0_2
 have HC0_2 := Aside0.mk hc0_2
 clear hr0_2 hc0_2
 have HB := Aside0.mk (Below.refl w.heap.size w)
 have H : ((inspect_within.f a0_0 1 1000000000).bind fun t356 => (if t356 = true then (if (l0_1.length : Int) > 8 then (some 3) else (inspect_Check.l0 k l0_1 (l0_1.length : Int) 0 a0_0 l0_1 l0_2)) else (some 1))) = some r := h
 clear h
 replace H := Option.bind_eq_some_iff.mp H
 obtain ⟨t356, A20, H⟩ := H
 replace H : (if t356 = true then (if (l0_1.length : Int) > 8 then (some 3) else (inspect_Check.l0 k l0_1 (l0_1.length : Int) 0 a0_0 l0_1 l0_2)) else (some 1)) = some r := H
 have A2 := Aside0.mk A20
 clear A20
 by_cases c3 : t356 = true
 ·subst c3
  have H1 : (if (l0_1.length : Int) > 8 then (some 3) else (inspect_Check.l0 k l0_1 (l0_1.length : Int) 0 a0_0 l0_1 l0_2)) = some r := by rw [if_pos rfl] at H; exact H
  clear H
  have H := H1
  clear H1
  by_cases c4 : (l0_1.length : Int) > 8
  ·rw [if_pos c4] at H
   have c4b0 : decide (8 < (l0_1.length : Int)) = true := decide_eq_true c4
   have c4b1 : decide (8 < l0_1.length) = true := decide_eq_true zq18
   clear c4
   obtain rfl := Option.some.inj H
   go_enter Try.func48, Try.ntmps48
   go_wp2_with (first | ((with_reducible refine gate_dst (N := 1) rfl ?_); refine box_event ?hg (N := 1) ?hd (cs := #[.int .i64 a0_0, .slice A0_1 l0_1.length c0_1, .slice A0_2 l0_2.length c0_2]) (t := 25) ?hr ?_; (case hd => rfl); (case hg => rfl); (case hr => exact zq13); intro gb355 hg w5 hbox hb; have n_ := as4 (below_step zq2 hb) (hbox) ((zq23 : w.heap.size ≤ gb355)) ((zq23 : w.heap.size ≤ gb355)); clear HB hb hbox hg; obtain ⟨HB, BK355, GW355, GE355⟩ := n_; obtain ⟨hcz6_0, hcz6_1, hcz6_2, hfz6_0, hfz6_1, hfz6_2⟩ := bcs3 BK355.out) | ((with_reducible refine gate_callee (f := 36) rfl ?_); refine goesL_ (some 11) rfl rfl Try.func36 zq26 rfl #[.int .i64 a0_0, .int .i64 1, .int .i64 1000000000] rfl zq3 ?_; (with_reducible refine (inspect_within.calls a0_0 1 1000000000 true _ A2.out).mono ?_); rintro e w' ⟨rfl, ⟨nd, rfl⟩⟩; refine ⟨_, rfl, ?_⟩))
   go_ret
   exact ⟨zq9, zq4⟩
  ·rw [if_neg c4] at H
   have c4b0 : decide (8 < (l0_1.length : Int)) = false := decide_eq_false c4
   have c4b1 : decide (8 < l0_1.length) = false := decide_eq_false zq18
   clear c4
   have H' := Aside0.mk H
   clear H
   go_enter Try.func48, Try.ntmps48
   go_wp2_with (first | ((with_reducible refine gate_dst (N := 1) rfl ?_); refine box_event ?hg (N := 1) ?hd (cs := #[.int .i64 a0_0, .slice A0_1 l0_1.length c0_1, .slice A0_2 l0_2.length c0_2]) (t := 25) ?hr ?_; (case hd => rfl); (case hg => rfl); (case hr => exact zq13); intro gb355 hg w7 hbox hb; have n_ := as4 (below_step zq2 hb) (hbox) ((zq23 : w.heap.size ≤ gb355)) ((zq23 : w.heap.size ≤ gb355)); clear HB hb hbox hg; obtain ⟨HB, BK355, GW355, GE355⟩ := n_; obtain ⟨hcz8_0, hcz8_1, hcz8_2, hfz8_0, hfz8_1, hfz8_2⟩ := bcs3 BK355.out) | ((with_reducible refine gate_callee (f := 36) rfl ?_); refine goesL_ (some 11) rfl rfl Try.func36 zq26 rfl #[.int .i64 a0_0, .int .i64 1, .int .i64 1000000000] rfl zq3 ?_; (with_reducible refine (inspect_within.calls a0_0 1 1000000000 true _ A2.out).mono ?_); rintro e w' ⟨rfl, ⟨nd, rfl⟩⟩; refine ⟨_, rfl, ?_⟩))
   go_loopg [21] k (fun kq v21 w' => ∃ (x21_1 : Int), v21 = .int .i64 x21_1 ∧ Aside0 (inspect_Check.l0 kq l0_1 (l0_1.length : Int) x21_1 a0_0 l0_1 l0_2 = some r) ∧ Aside0 (kq ≤ k) ∧ Aside0 (w'.heap[gb355]? = some (.cells #[.int .i64 a0_0, (.slice A0_1 l0_1.length c0_1), (.slice A0_2 l0_2.length c0_2)] 25 (0, 0))) ∧ Aside0 (Below w.heap.size w w'))
   case atStart => exact ⟨(0), zq20, H', ⟨Nat.le_refl _⟩, ⟨(zq0 BK355.out)⟩, ⟨zq4⟩⟩
   case round =>
    clear H'
    try clear p2
    try clear c3
    try clear c4
    try clear c4b0
    try clear c4b1
    try clear hcz6_0 hcz6_1 hcz6_2 hfz6_0 hfz6_1 hfz6_2
    try clear hcz8_0 hcz8_1 hcz8_2 hfz8_0 hfz8_1 hfz8_2
    obtain ⟨x21_1, rfl, HA, HK1, BK355, HB⟩ := hrel
    cases gk with
    | zero => exact absurd HA.out (by simp [inspect_Check.l0])
    | succ k1 =>
     have H := HA.out
     clear HA
     simp only [inspect_Check.l0] at H
     by_cases c9 : x21_1 < (l0_1.length : Int)
     ·rw [if_pos c9] at H
      have c9b0 : decide (x21_1 < (l0_1.length : Int)) = true := decide_eq_true c9
      clear c9
      by_cases c10 : 0 ≤ x21_1
      ·rw [if_pos c10] at H
       have c10b0 : decide (0 ≤ x21_1) = true := decide_eq_true c10
       clear c10
       by_cases c11 : x21_1 < (l0_1.length : Int)
       ·rw [if_pos c11] at H
        have c11b0 : decide (x21_1 < (l0_1.length : Int)) = true := decide_eq_true c11
        clear c11
        replace H := Option.bind_eq_some_iff.mp H
        obtain ⟨t359, A120, H⟩ := H
        replace H : (if t359 = true then (if x21_1 ≤ (l0_1.length : Int) then ((HasFlaw.f (l0_1.take (x21_1 : Int).toNat) ((rd_T58 l0_1 x21_1).f0) ((rd_T58 l0_1 x21_1).f1)).bind fun t364 => (if t364 = true then (some 6) else ((inspect_within.f ((rd_T58 l0_1 x21_1).f1) 0 4).bind fun t365 => (if t365 = true then (inspect_Check.l0 k1 l0_1 (l0_1.length : Int) (wrap64 (x21_1 + 1)) a0_0 l0_1 l0_2) else (some 1))))) else (none)) else (some 5)) = some r := H
        have A12 := Aside0.mk A120
        clear A120
        by_cases c13 : t359 = true
        ·subst c13
         have H1 : (if x21_1 ≤ (l0_1.length : Int) then ((HasFlaw.f (l0_1.take (x21_1 : Int).toNat) ((rd_T58 l0_1 x21_1).f0) ((rd_T58 l0_1 x21_1).f1)).bind fun t364 => (if t364 = true then (some 6) else ((inspect_within.f ((rd_T58 l0_1 x21_1).f1) 0 4).bind fun t365 => (if t365 = true then (inspect_Check.l0 k1 l0_1 (l0_1.length : Int) (wrap64 (x21_1 + 1)) a0_0 l0_1 l0_2) else (some 1))))) else (none)) = some r := by rw [if_pos rfl] at H; exact H
         clear H
         have H := H1
         clear H1
         have c14b0 := eq_true (of_decide_eq_true zq5 : 0 ≤ x21_1)
         by_cases c15 : x21_1 ≤ (l0_1.length : Int)
         ·rw [if_pos c15] at H
          have c15b0 := eq_true c15
          have c15b1 : decide (x21_1 ≤ (l0_1.length : Int)) = true := decide_eq_true c15
          clear c15
          obtain ⟨y360, hy360⟩ : ∃ y_ : List (S58), y_ = (l0_1.take (x21_1 : Int).toNat) := ⟨_, rfl⟩
          replace H : ((HasFlaw.f y360 ((rd_T58 l0_1 x21_1).f0) ((rd_T58 l0_1 x21_1).f1)).bind fun t364 => (if t364 = true then (some 6) else ((inspect_within.f ((rd_T58 l0_1 x21_1).f1) 0 4).bind fun t365 => (if t365 = true then (inspect_Check.l0 k1 l0_1 (l0_1.length : Int) (wrap64 (x21_1 + 1)) a0_0 l0_1 l0_2) else (some 1))))) = some r := by first | (rw [hy360]; with_reducible exact H) | (have H2_ := (Option.bind_some _ _).symm.trans H; rw [hy360]; with_reducible exact H2_) | (have H2_ := (Option.bind_some _ _).symm.trans H; with_reducible exact H2_) | with_reducible exact H | (rw [hy360]; exact H) | exact H
          have Ny360 := Aside0.mk hy360
          clear hy360
          replace H := Option.bind_eq_some_iff.mp H
          obtain ⟨t364, A160, H⟩ := H
          replace H : (if t364 = true then (some 6) else ((inspect_within.f ((rd_T58 l0_1 x21_1).f1) 0 4).bind fun t365 => (if t365 = true then (inspect_Check.l0 k1 l0_1 (l0_1.length : Int) (wrap64 (x21_1 + 1)) a0_0 l0_1 l0_2) else (some 1)))) = some r := H
          have A16 := Aside0.mk A160
          clear A160
          by_cases c17 : t364 = true
          ·subst c17
           have H1 : (some 6) = some r := by rw [if_pos rfl] at H; exact H
           clear H
           have H := H1
           clear H1
           obtain rfl := Option.some.inj H
           have p357 : 0 ≤ (x21_1 : Int) := of_decide_eq_true zq5
           have q357 : x21_1 < (l0_1.length : Int) := of_decide_eq_true zq5
           obtain ⟨ad357, e357, hx357_0, hx357_1⟩ := at_T58 HR0_1.out x21_1 p357 q357
           cases e357
           replace hx357_0 := hcx HB.out hx357_0
           replace hx357_1 := hcx HB.out hx357_1
           replace p357 := eq_true p357
           replace q357 := eq_true q357
           go_wp2_with (first | ((with_reducible refine gate_dst (N := 4) rfl ?_); refine box_event ?hg (N := 4) ?hd (cs := #[.string (⟨#[]⟩ : ByteArray), .int .i64 0]) (t := 58) ?hr ?_; (case hd => rfl); (case hg => rfl); (case hr => exact zq13); intro gb358 hg w18 hbox hb; have n_ := as7 (blk_below (zq0 BK355.out) hb) (below_step zq4 hb) (hbox) ((zq39 : w.heap.size ≤ gb358)) ((zq39 : w.heap.size ≤ gb358)) ((zq41 : gb355 ≠ gb358)) ((zq42 : gb358 ≠ gb355)); clear BK355 HB hb hbox hg; obtain ⟨BK355, HB, BK358, GW358, GE358, NB355_358, NB358_355⟩ := n_; have hnb19 := NB358_355.out; have hnc19 := NB355_358.out; obtain ⟨hcz20_0, hcz20_1, hfz20_0, hfz20_1⟩ := bcs2 BK358.out) | ((with_reducible refine gate_store (t := 58) (p := 4) rfl ?_); refine store_event (t := 58) (p := 4) (v := ?vo_w21) (w1 := ((w18.setCell ⟨gb358, 0, none⟩ (.string ((rd_T58 l0_1 x21_1).f0))).setCell ⟨gb358, 1, none⟩ (.int .i64 ((rd_T58 l0_1 x21_1).f1)))) ?hg ?ho ?hn ?hr ?_; (case ho => rfl); (case hg => rfl); (case hn => rfl); (case hr => exact zq13); intro w21 hw; have n_ := as3 ((by rw [hw]; exact (bch1 NB355_358.out BK355.out)) : w21.heap[gb355]? = some (.cells #[.int .i64 a0_0, .slice (some ad357) l0_1.length c0_1, .slice A0_2 l0_2.length c0_2] 25 (0, 0))) ((by rw [hw]; exact (bch0p BK358.out)) : w21.heap[gb358]? = some (.cells #[.string ((rd_T58 l0_1 x21_1).f0), .int .i64 ((rd_T58 l0_1 x21_1).f1)] 58 (0, 0))) ((by rw [hw]; exact zq19) : Below w.heap.size w w21); clear hw BK355 BK358 HB; obtain ⟨BK355, BK358, HB⟩ := n_; obtain ⟨hcz22_0, hcz22_1, hfz22_0, hfz22_1⟩ := bcs2 BK358.out) | ((with_reducible refine gate_callee (f := 71) rfl ?_); refine goesL_ (some 29) rfl rfl Try.func71 zq26 rfl #[.string ((rd_T58 l0_1 x21_1).f0)] rfl zq3 ?_; (with_reducible refine (inspect_isName.calls k1 ((rd_T58 l0_1 x21_1).f0) true _ A12.out).mono ?_); rintro e w' ⟨rfl, ⟨nd, rfl⟩⟩; refine ⟨_, rfl, ?_⟩; obtain ⟨hcz23_0, hcz23_1, hcz23_2, hfz23_0, hfz23_1, hfz23_2⟩ := bcs3 BK355.out; have q24 : (x21_1 : Int) ≤ ((l0_1.length : Int) : Int) := of_decide_eq_true zq5; obtain ⟨i024, hi024, _, hsz24, _⟩ := info_parts info58; have hroom24 : l0_1.length ≤ c0_1 := HC0_1.out; have hC24 : Kd.C k58 _ (some ad357) l0_1.length l0_1 := HR0_1.out; have hcut24 := cut_to (P := Try.prog) 22 58 .i64 Try.underlying22 hi024 (some ad357) l0_1.length c0_1 x21_1 (of_decide_eq_true zq5) q24 hroom24; have hr24 := Kd.C_take (m := (x21_1 : Int).toNat) hC24 zq18; have hy24 : y360.length = (x21_1 : Int).toNat := (by rw [Ny360.out, List.length_take]; omega); rw [← Ny360.out] at hr24; rw [← hy24] at hcut24; have HR363 := Aside0.mk hr24; have HC363 := Aside0.mk (show y360.length ≤ c0_1 from by omega); clear hr24 hC24 hroom24 hi024 hsz24; have KY24 := Aside0.mk hy24; clear hy24; replace q24 := eq_true q24) | ((with_reducible refine gate_callee (f := 72) rfl ?_); refine goesL_ (some 37) rfl rfl Try.func72 zq26 rfl #[.slice (some ad357) y360.length c0_1, .func (.func 73) #[] #[.pointer (some ⟨gb358, 0, none⟩)]] rfl zq3 ?_; (with_reducible refine (HasFlaw.calls _ _ y360 gb358 ((rd_T58 l0_1 x21_1).f0) ((rd_T58 l0_1 x21_1).f1) true _ ?side1 ?side2 ?side3 A16.out).mono ?_); (case side1 => exact zq45); (case side2 => exact HC363.out); (case side3 => exact (zq0 BK358.out)); rintro e w25 ⟨rfl, hb⟩; refine ⟨_, rfl, ?_⟩; have n_ := as3 (blk_below (zq0 BK355.out) hb) (blk_below (zq0 BK358.out) hb) (below_step zq19 hb); clear BK355 BK358 HB; obtain ⟨BK355, BK358, HB⟩ := n_; (try clear hb); (try clear hb2); (try clear hk); (try clear hi)))
           go_ret
           exact ⟨zq9, zq19⟩
          ·replace c17 := Bool.eq_false_iff.mpr c17
           subst c17
           have H1 : ((inspect_within.f ((rd_T58 l0_1 x21_1).f1) 0 4).bind fun t365 => (if t365 = true then (inspect_Check.l0 k1 l0_1 (l0_1.length : Int) (wrap64 (x21_1 + 1)) a0_0 l0_1 l0_2) else (some 1))) = some r := by rw [if_neg (show ¬ (false = true) by decide)] at H; exact H
           clear H
           have H := H1
           clear H1
           replace H := Option.bind_eq_some_iff.mp H
           obtain ⟨t365, A260, H⟩ := H
           replace H : (if t365 = true then (inspect_Check.l0 k1 l0_1 (l0_1.length : Int) (wrap64 (x21_1 + 1)) a0_0 l0_1 l0_2) else (some 1)) = some r := H
           have A26 := Aside0.mk A260
           clear A260
           by_cases c27 : t365 = true
           ·subst c27
            have H1 : (inspect_Check.l0 k1 l0_1 (l0_1.length : Int) (wrap64 (x21_1 + 1)) a0_0 l0_1 l0_2) = some r := by rw [if_pos rfl] at H; exact H
            clear H
            have H := H1
            clear H1
            have H' := Aside0.mk H
            clear H
            have p357 : 0 ≤ (x21_1 : Int) := of_decide_eq_true zq5
            have q357 : x21_1 < (l0_1.length : Int) := of_decide_eq_true zq5
            obtain ⟨ad357, e357, hx357_0, hx357_1⟩ := at_T58 HR0_1.out x21_1 p357 q357
            cases e357
            replace hx357_0 := hcx HB.out hx357_0
            replace hx357_1 := hcx HB.out hx357_1
            replace p357 := eq_true p357
            replace q357 := eq_true q357
            go_wp2_with (first | ((with_reducible refine gate_dst (N := 4) rfl ?_); refine box_event ?hg (N := 4) ?hd (cs := #[.string (⟨#[]⟩ : ByteArray), .int .i64 0]) (t := 58) ?hr ?_; (case hd => rfl); (case hg => rfl); (case hr => exact zq13); intro gb358 hg w28 hbox hb; have n_ := as7 (blk_below (zq0 BK355.out) hb) (below_step zq4 hb) (hbox) ((zq39 : w.heap.size ≤ gb358)) ((zq39 : w.heap.size ≤ gb358)) ((zq41 : gb355 ≠ gb358)) ((zq42 : gb358 ≠ gb355)); clear BK355 HB hb hbox hg; obtain ⟨BK355, HB, BK358, GW358, GE358, NB355_358, NB358_355⟩ := n_; have hnb29 := NB358_355.out; have hnc29 := NB355_358.out; obtain ⟨hcz30_0, hcz30_1, hfz30_0, hfz30_1⟩ := bcs2 BK358.out) | ((with_reducible refine gate_store (t := 58) (p := 4) rfl ?_); refine store_event (t := 58) (p := 4) (v := ?vo_w31) (w1 := ((w28.setCell ⟨gb358, 0, none⟩ (.string ((rd_T58 l0_1 x21_1).f0))).setCell ⟨gb358, 1, none⟩ (.int .i64 ((rd_T58 l0_1 x21_1).f1)))) ?hg ?ho ?hn ?hr ?_; (case ho => rfl); (case hg => rfl); (case hn => rfl); (case hr => exact zq13); intro w31 hw; have n_ := as3 ((by rw [hw]; exact (bch1 NB355_358.out BK355.out)) : w31.heap[gb355]? = some (.cells #[.int .i64 a0_0, .slice (some ad357) l0_1.length c0_1, .slice A0_2 l0_2.length c0_2] 25 (0, 0))) ((by rw [hw]; exact (bch0p BK358.out)) : w31.heap[gb358]? = some (.cells #[.string ((rd_T58 l0_1 x21_1).f0), .int .i64 ((rd_T58 l0_1 x21_1).f1)] 58 (0, 0))) ((by rw [hw]; exact zq19) : Below w.heap.size w w31); clear hw BK355 BK358 HB; obtain ⟨BK355, BK358, HB⟩ := n_; obtain ⟨hcz32_0, hcz32_1, hfz32_0, hfz32_1⟩ := bcs2 BK358.out) | ((with_reducible refine gate_callee (f := 71) rfl ?_); refine goesL_ (some 29) rfl rfl Try.func71 zq26 rfl #[.string ((rd_T58 l0_1 x21_1).f0)] rfl zq3 ?_; (with_reducible refine (inspect_isName.calls k1 ((rd_T58 l0_1 x21_1).f0) true _ A12.out).mono ?_); rintro e w' ⟨rfl, ⟨nd, rfl⟩⟩; refine ⟨_, rfl, ?_⟩; obtain ⟨hcz33_0, hcz33_1, hcz33_2, hfz33_0, hfz33_1, hfz33_2⟩ := bcs3 BK355.out; have q34 : (x21_1 : Int) ≤ ((l0_1.length : Int) : Int) := of_decide_eq_true zq5; obtain ⟨i034, hi034, _, hsz34, _⟩ := info_parts info58; have hroom34 : l0_1.length ≤ c0_1 := HC0_1.out; have hC34 : Kd.C k58 _ (some ad357) l0_1.length l0_1 := HR0_1.out; have hcut34 := cut_to (P := Try.prog) 22 58 .i64 Try.underlying22 hi034 (some ad357) l0_1.length c0_1 x21_1 (of_decide_eq_true zq5) q34 hroom34; have hr34 := Kd.C_take (m := (x21_1 : Int).toNat) hC34 zq18; have hy34 : y360.length = (x21_1 : Int).toNat := (by rw [Ny360.out, List.length_take]; omega); rw [← Ny360.out] at hr34; rw [← hy34] at hcut34; have HR363 := Aside0.mk hr34; have HC363 := Aside0.mk (show y360.length ≤ c0_1 from by omega); clear hr34 hC34 hroom34 hi034 hsz34; have KY34 := Aside0.mk hy34; clear hy34; replace q34 := eq_true q34) | ((with_reducible refine gate_callee (f := 72) rfl ?_); refine goesL_ (some 37) rfl rfl Try.func72 zq26 rfl #[.slice (some ad357) y360.length c0_1, .func (.func 73) #[] #[.pointer (some ⟨gb358, 0, none⟩)]] rfl zq3 ?_; (with_reducible refine (HasFlaw.calls _ _ y360 gb358 ((rd_T58 l0_1 x21_1).f0) ((rd_T58 l0_1 x21_1).f1) false _ ?side1 ?side2 ?side3 A16.out).mono ?_); (case side1 => exact zq45); (case side2 => exact HC363.out); (case side3 => exact (zq0 BK358.out)); rintro e w35 ⟨rfl, hb⟩; refine ⟨_, rfl, ?_⟩; have n_ := as3 (blk_below (zq0 BK355.out) hb) (blk_below (zq0 BK358.out) hb) (below_step zq19 hb); clear BK355 BK358 HB; obtain ⟨BK355, BK358, HB⟩ := n_; (try clear hb); (try clear hb2); (try clear hk); (try clear hi); obtain ⟨hcz36_0, hcz36_1, hfz36_0, hfz36_1⟩ := bcs2 BK358.out) | ((with_reducible refine gate_callee (f := 36) rfl ?_); refine goesL_ (some 41) rfl rfl Try.func36 zq26 rfl #[.int .i64 ((rd_T58 l0_1 x21_1).f1), .int .i64 0, .int .i64 4] rfl zq3 ?_; (with_reducible refine (inspect_within.calls ((rd_T58 l0_1 x21_1).f1) 0 4 true _ A26.out).mono ?_); rintro e w' ⟨rfl, ⟨nd, rfl⟩⟩; refine ⟨_, rfl, ?_⟩))
            go_roundg k1
            case measure => have := HK1.out; omega
            case rel => exact ⟨(wrap64 (x21_1 + 1)), zq20, H', ⟨by have := HK1.out; omega⟩, ⟨(zq0 BK355.out)⟩, ⟨zq19⟩⟩
           ·replace c27 := Bool.eq_false_iff.mpr c27
            subst c27
            have H1 : (some 1) = some r := by rw [if_neg (show ¬ (false = true) by decide)] at H; exact H
            clear H
            have H := H1
            clear H1
            obtain rfl := Option.some.inj H
            have p357 : 0 ≤ (x21_1 : Int) := of_decide_eq_true zq5
            have q357 : x21_1 < (l0_1.length : Int) := of_decide_eq_true zq5
            obtain ⟨ad357, e357, hx357_0, hx357_1⟩ := at_T58 HR0_1.out x21_1 p357 q357
            cases e357
            replace hx357_0 := hcx HB.out hx357_0
            replace hx357_1 := hcx HB.out hx357_1
            replace p357 := eq_true p357
            replace q357 := eq_true q357
            go_wp2_with (first | ((with_reducible refine gate_dst (N := 4) rfl ?_); refine box_event ?hg (N := 4) ?hd (cs := #[.string (⟨#[]⟩ : ByteArray), .int .i64 0]) (t := 58) ?hr ?_; (case hd => rfl); (case hg => rfl); (case hr => exact zq13); intro gb358 hg w37 hbox hb; have n_ := as7 (blk_below (zq0 BK355.out) hb) (below_step zq4 hb) (hbox) ((zq39 : w.heap.size ≤ gb358)) ((zq39 : w.heap.size ≤ gb358)) ((zq41 : gb355 ≠ gb358)) ((zq42 : gb358 ≠ gb355)); clear BK355 HB hb hbox hg; obtain ⟨BK355, HB, BK358, GW358, GE358, NB355_358, NB358_355⟩ := n_; have hnb38 := NB358_355.out; have hnc38 := NB355_358.out; obtain ⟨hcz39_0, hcz39_1, hfz39_0, hfz39_1⟩ := bcs2 BK358.out) | ((with_reducible refine gate_store (t := 58) (p := 4) rfl ?_); refine store_event (t := 58) (p := 4) (v := ?vo_w40) (w1 := ((w37.setCell ⟨gb358, 0, none⟩ (.string ((rd_T58 l0_1 x21_1).f0))).setCell ⟨gb358, 1, none⟩ (.int .i64 ((rd_T58 l0_1 x21_1).f1)))) ?hg ?ho ?hn ?hr ?_; (case ho => rfl); (case hg => rfl); (case hn => rfl); (case hr => exact zq13); intro w40 hw; have n_ := as3 ((by rw [hw]; exact (bch1 NB355_358.out BK355.out)) : w40.heap[gb355]? = some (.cells #[.int .i64 a0_0, .slice (some ad357) l0_1.length c0_1, .slice A0_2 l0_2.length c0_2] 25 (0, 0))) ((by rw [hw]; exact (bch0p BK358.out)) : w40.heap[gb358]? = some (.cells #[.string ((rd_T58 l0_1 x21_1).f0), .int .i64 ((rd_T58 l0_1 x21_1).f1)] 58 (0, 0))) ((by rw [hw]; exact zq19) : Below w.heap.size w w40); clear hw BK355 BK358 HB; obtain ⟨BK355, BK358, HB⟩ := n_; obtain ⟨hcz41_0, hcz41_1, hfz41_0, hfz41_1⟩ := bcs2 BK358.out) | ((with_reducible refine gate_callee (f := 71) rfl ?_); refine goesL_ (some 29) rfl rfl Try.func71 zq26 rfl #[.string ((rd_T58 l0_1 x21_1).f0)] rfl zq3 ?_; (with_reducible refine (inspect_isName.calls k1 ((rd_T58 l0_1 x21_1).f0) true _ A12.out).mono ?_); rintro e w' ⟨rfl, ⟨nd, rfl⟩⟩; refine ⟨_, rfl, ?_⟩; obtain ⟨hcz42_0, hcz42_1, hcz42_2, hfz42_0, hfz42_1, hfz42_2⟩ := bcs3 BK355.out; have q43 : (x21_1 : Int) ≤ ((l0_1.length : Int) : Int) := of_decide_eq_true zq5; obtain ⟨i043, hi043, _, hsz43, _⟩ := info_parts info58; have hroom43 : l0_1.length ≤ c0_1 := HC0_1.out; have hC43 : Kd.C k58 _ (some ad357) l0_1.length l0_1 := HR0_1.out; have hcut43 := cut_to (P := Try.prog) 22 58 .i64 Try.underlying22 hi043 (some ad357) l0_1.length c0_1 x21_1 (of_decide_eq_true zq5) q43 hroom43; have hr43 := Kd.C_take (m := (x21_1 : Int).toNat) hC43 zq18; have hy43 : y360.length = (x21_1 : Int).toNat := (by rw [Ny360.out, List.length_take]; omega); rw [← Ny360.out] at hr43; rw [← hy43] at hcut43; have HR363 := Aside0.mk hr43; have HC363 := Aside0.mk (show y360.length ≤ c0_1 from by omega); clear hr43 hC43 hroom43 hi043 hsz43; have KY43 := Aside0.mk hy43; clear hy43; replace q43 := eq_true q43) | ((with_reducible refine gate_callee (f := 72) rfl ?_); refine goesL_ (some 37) rfl rfl Try.func72 zq26 rfl #[.slice (some ad357) y360.length c0_1, .func (.func 73) #[] #[.pointer (some ⟨gb358, 0, none⟩)]] rfl zq3 ?_; (with_reducible refine (HasFlaw.calls _ _ y360 gb358 ((rd_T58 l0_1 x21_1).f0) ((rd_T58 l0_1 x21_1).f1) false _ ?side1 ?side2 ?side3 A16.out).mono ?_); (case side1 => exact zq45); (case side2 => exact HC363.out); (case side3 => exact (zq0 BK358.out)); rintro e w44 ⟨rfl, hb⟩; refine ⟨_, rfl, ?_⟩; have n_ := as3 (blk_below (zq0 BK355.out) hb) (blk_below (zq0 BK358.out) hb) (below_step zq19 hb); clear BK355 BK358 HB; obtain ⟨BK355, BK358, HB⟩ := n_; (try clear hb); (try clear hb2); (try clear hk); (try clear hi); obtain ⟨hcz45_0, hcz45_1, hfz45_0, hfz45_1⟩ := bcs2 BK358.out) | ((with_reducible refine gate_callee (f := 36) rfl ?_); refine goesL_ (some 41) rfl rfl Try.func36 zq26 rfl #[.int .i64 ((rd_T58 l0_1 x21_1).f1), .int .i64 0, .int .i64 4] rfl zq3 ?_; (with_reducible refine (inspect_within.calls ((rd_T58 l0_1 x21_1).f1) 0 4 false _ A26.out).mono ?_); rintro e w' ⟨rfl, ⟨nd, rfl⟩⟩; refine ⟨_, rfl, ?_⟩))
            go_ret
            exact ⟨zq9, zq19⟩
         ·rw [if_neg c15] at H
          exact absurd H zq51
        ·replace c13 := Bool.eq_false_iff.mpr c13
         subst c13
         have H1 : (some 5) = some r := by rw [if_neg (show ¬ (false = true) by decide)] at H; exact H
         clear H
         have H := H1
         clear H1
         obtain rfl := Option.some.inj H
         have p357 : 0 ≤ (x21_1 : Int) := of_decide_eq_true zq5
         have q357 : x21_1 < (l0_1.length : Int) := of_decide_eq_true zq5
         obtain ⟨ad357, e357, hx357_0, hx357_1⟩ := at_T58 HR0_1.out x21_1 p357 q357
         cases e357
         replace hx357_0 := hcx HB.out hx357_0
         replace hx357_1 := hcx HB.out hx357_1
         replace p357 := eq_true p357
         replace q357 := eq_true q357
         go_wp2_with (first | ((with_reducible refine gate_dst (N := 4) rfl ?_); refine box_event ?hg (N := 4) ?hd (cs := #[.string (⟨#[]⟩ : ByteArray), .int .i64 0]) (t := 58) ?hr ?_; (case hd => rfl); (case hg => rfl); (case hr => exact zq13); intro gb358 hg w46 hbox hb; have n_ := as7 (blk_below (zq0 BK355.out) hb) (below_step zq4 hb) (hbox) ((zq39 : w.heap.size ≤ gb358)) ((zq39 : w.heap.size ≤ gb358)) ((zq41 : gb355 ≠ gb358)) ((zq42 : gb358 ≠ gb355)); clear BK355 HB hb hbox hg; obtain ⟨BK355, HB, BK358, GW358, GE358, NB355_358, NB358_355⟩ := n_; have hnb47 := NB358_355.out; have hnc47 := NB355_358.out; obtain ⟨hcz48_0, hcz48_1, hfz48_0, hfz48_1⟩ := bcs2 BK358.out) | ((with_reducible refine gate_callee (f := 71) rfl ?_); refine goesL_ (some 29) rfl rfl Try.func71 zq26 rfl #[.string ((rd_T58 l0_1 x21_1).f0)] rfl zq3 ?_; (with_reducible refine (inspect_isName.calls k1 ((rd_T58 l0_1 x21_1).f0) false _ A12.out).mono ?_); rintro e w' ⟨rfl, ⟨nd, rfl⟩⟩; refine ⟨_, rfl, ?_⟩))
         go_ret
         exact ⟨zq9, zq19⟩
       ·rw [if_neg c11] at H
        exact absurd H zq51
      ·rw [if_neg c10] at H
       exact absurd H zq51
     ·rw [if_neg c9] at H
      have c9b0 : decide (x21_1 < (l0_1.length : Int)) = false := decide_eq_false c9
      clear c9
      by_cases c49 : (l0_2.length : Int) > 4
      ·rw [if_pos c49] at H
       have c49b0 : decide (4 < (l0_2.length : Int)) = true := decide_eq_true c49
       have c49b1 : decide (4 < l0_2.length) = true := decide_eq_true zq18
       clear c49
       obtain rfl := Option.some.inj H
       obtain ⟨hcz50_0, hcz50_1, hcz50_2, hfz50_0, hfz50_1, hfz50_2⟩ := bcs3 BK355.out
       go_wp2
       go_ret
       exact ⟨zq9, zq4⟩
      ·rw [if_neg c49] at H
       have c49b0 : decide (4 < (l0_2.length : Int)) = false := decide_eq_false c49
       have c49b1 : decide (4 < l0_2.length) = false := decide_eq_false zq18
       clear c49
       have H' := Aside0.mk H
       clear H
       obtain ⟨hcz51_0, hcz51_1, hcz51_2, hfz51_0, hfz51_1, hfz51_2⟩ := bcs3 BK355.out
       go_wp2
       go_loopg [51] k1 (fun kq v51 w' => ∃ (x51_2 : Int), v51 = .int .i64 x51_2 ∧ Aside0 (inspect_Check.l1 kq l0_2 (l0_2.length : Int) x51_2 a0_0 l0_1 l0_2 = some r) ∧ Aside0 (kq ≤ k1) ∧ Aside0 (w'.heap[gb355]? = some (.cells #[.int .i64 a0_0, (.slice A0_1 l0_1.length c0_1), (.slice A0_2 l0_2.length c0_2)] 25 (0, 0))) ∧ Aside0 (Below w.heap.size w w'))
       case atStart => exact ⟨(0), zq20, H', ⟨Nat.le_refl _⟩, ⟨(zq0 BK355.out)⟩, ⟨zq4⟩⟩
       case round =>
        clear H'
        try clear c1
        try clear c2
        try clear p2 p2
        try clear q2
        try clear c3
        try clear p3
        try clear q3
        try clear hx3
        try clear c4
        try clear c4b0
        try clear c4b1
        try clear q4
        try clear p6
        try clear c7
        try clear c9
        try clear c9b0
        try clear c10
        try clear c10b0
        try clear c11
        try clear c11b0
        try clear c13
        try clear c14
        try clear c14b0
        try clear c15
        try clear c15b0
        try clear c15b1
        try clear c17
        try clear c19
        try clear q24 q24
        try clear c27
        try clear c29
        try clear q34 q34
        try clear p35
        try clear q35
        try clear hx35
        try clear c36
        try clear c38
        try clear q43 q43
        try clear c47
        try clear c48
        try clear c49
        try clear c49b0
        try clear c49b1
        try clear hcz20_0 hcz20_1 hfz20_0 hfz20_1
        try clear hcz22_0 hcz22_1 hfz22_0 hfz22_1
        try clear hcz23_0 hcz23_1 hcz23_2 hfz23_0 hfz23_1 hfz23_2
        try clear hcz30_0 hcz30_1 hfz30_0 hfz30_1
        try clear hcz32_0 hcz32_1 hfz32_0 hfz32_1
        try clear hcz33_0 hcz33_1 hcz33_2 hfz33_0 hfz33_1 hfz33_2
        try clear hcz36_0 hcz36_1 hfz36_0 hfz36_1
        try clear hcz39_0 hcz39_1 hfz39_0 hfz39_1
        try clear hcz41_0 hcz41_1 hfz41_0 hfz41_1
        try clear hcz42_0 hcz42_1 hcz42_2 hfz42_0 hfz42_1 hfz42_2
        try clear hcz45_0 hcz45_1 hfz45_0 hfz45_1
        try clear hcz48_0 hcz48_1 hfz48_0 hfz48_1
        try clear hcz50_0 hcz50_1 hcz50_2 hfz50_0 hfz50_1 hfz50_2
        try clear hcz51_0 hcz51_1 hcz51_2 hfz51_0 hfz51_1 hfz51_2
        try clear hcz6_0 hcz6_1 hcz6_2 hfz6_0 hfz6_1 hfz6_2
        try clear hcz8_0 hcz8_1 hcz8_2 hfz8_0 hfz8_1 hfz8_2
        try clear hx357_0
        try clear hx357_1
        try clear p357
        try clear q357
        obtain ⟨x51_2, rfl, HA, HK2, BK355, HB⟩ := hrel
        cases gk with
        | zero => exact absurd HA.out (by simp [inspect_Check.l1])
        | succ k2 =>
         have H := HA.out
         clear HA
         simp only [inspect_Check.l1] at H
         by_cases c52 : x51_2 < (l0_2.length : Int)
         ·rw [if_pos c52] at H
          have c52b0 : decide (x51_2 < (l0_2.length : Int)) = true := decide_eq_true c52
          clear c52
          by_cases c53 : 0 ≤ x51_2
          ·rw [if_pos c53] at H
           have c53b0 : decide (0 ≤ x51_2) = true := decide_eq_true c53
           clear c53
           by_cases c54 : x51_2 < (l0_2.length : Int)
           ·rw [if_pos c54] at H
            have c54b0 : decide (x51_2 < (l0_2.length : Int)) = true := decide_eq_true c54
            clear c54
            replace H := Option.bind_eq_some_iff.mp H
            obtain ⟨t368, A550, H⟩ := H
            replace H : (if t368 = true then (if x51_2 ≤ (l0_2.length : Int) then ((HasStand.f (l0_2.take (x51_2 : Int).toNat) ((rd_T56 l0_2 x51_2).f0) ((rd_T56 l0_2 x51_2).f1)).bind fun t373 => (if t373 = true then (some 6) else ((inspect_claimsError.f k2 a0_0 l0_1 l0_2 ((rd_T56 l0_2 x51_2).f1)).bind fun t374 => (if t374 = 0 then (inspect_Check.l1 k2 l0_2 (l0_2.length : Int) (wrap64 (x51_2 + 1)) a0_0 l0_1 l0_2) else (some t374))))) else (none)) else (some 5)) = some r := H
            have A55 := Aside0.mk A550
            clear A550
            by_cases c56 : t368 = true
            ·subst c56
             have H1 : (if x51_2 ≤ (l0_2.length : Int) then ((HasStand.f (l0_2.take (x51_2 : Int).toNat) ((rd_T56 l0_2 x51_2).f0) ((rd_T56 l0_2 x51_2).f1)).bind fun t373 => (if t373 = true then (some 6) else ((inspect_claimsError.f k2 a0_0 l0_1 l0_2 ((rd_T56 l0_2 x51_2).f1)).bind fun t374 => (if t374 = 0 then (inspect_Check.l1 k2 l0_2 (l0_2.length : Int) (wrap64 (x51_2 + 1)) a0_0 l0_1 l0_2) else (some t374))))) else (none)) = some r := by rw [if_pos rfl] at H; exact H
             clear H
             have H := H1
             clear H1
             have c57b0 := eq_true (of_decide_eq_true zq5 : 0 ≤ x51_2)
             by_cases c58 : x51_2 ≤ (l0_2.length : Int)
             ·rw [if_pos c58] at H
              have c58b0 := eq_true c58
              have c58b1 : decide (x51_2 ≤ (l0_2.length : Int)) = true := decide_eq_true c58
              clear c58
              obtain ⟨y369, hy369⟩ : ∃ y_ : List (S56), y_ = (l0_2.take (x51_2 : Int).toNat) := ⟨_, rfl⟩
              replace H : ((HasStand.f y369 ((rd_T56 l0_2 x51_2).f0) ((rd_T56 l0_2 x51_2).f1)).bind fun t373 => (if t373 = true then (some 6) else ((inspect_claimsError.f k2 a0_0 l0_1 l0_2 ((rd_T56 l0_2 x51_2).f1)).bind fun t374 => (if t374 = 0 then (inspect_Check.l1 k2 l0_2 (l0_2.length : Int) (wrap64 (x51_2 + 1)) a0_0 l0_1 l0_2) else (some t374))))) = some r := by first | (rw [hy369]; with_reducible exact H) | (have H2_ := (Option.bind_some _ _).symm.trans H; rw [hy369]; with_reducible exact H2_) | (have H2_ := (Option.bind_some _ _).symm.trans H; with_reducible exact H2_) | with_reducible exact H | (rw [hy369]; exact H) | exact H
              have Ny369 := Aside0.mk hy369
              clear hy369
              replace H := Option.bind_eq_some_iff.mp H
              obtain ⟨t373, A590, H⟩ := H
              replace H : (if t373 = true then (some 6) else ((inspect_claimsError.f k2 a0_0 l0_1 l0_2 ((rd_T56 l0_2 x51_2).f1)).bind fun t374 => (if t374 = 0 then (inspect_Check.l1 k2 l0_2 (l0_2.length : Int) (wrap64 (x51_2 + 1)) a0_0 l0_1 l0_2) else (some t374)))) = some r := H
              have A59 := Aside0.mk A590
              clear A590
              by_cases c60 : t373 = true
              ·subst c60
               have H1 : (some 6) = some r := by rw [if_pos rfl] at H; exact H
               clear H
               have H := H1
               clear H1
               obtain rfl := Option.some.inj H
               have p366 : 0 ≤ (x51_2 : Int) := of_decide_eq_true zq5
               have q366 : x51_2 < (l0_2.length : Int) := of_decide_eq_true zq5
               obtain ⟨ad366, A366_1, c366_1, e366, hx366_0, hx366_1, hl366_1, hi366_1⟩ := at_T56 HR0_2.out x51_2 p366 q366
               cases e366
               replace hx366_0 := hcx HB.out hx366_0
               replace hx366_1 := hcx HB.out hx366_1
               have HR366_1 := Aside0.mk hi366_1
               have HC366_1 := Aside0.mk hl366_1
               clear hi366_1 hl366_1
               replace p366 := eq_true p366
               replace q366 := eq_true q366
               go_wp2_with (first | ((with_reducible refine gate_dst (N := 6) rfl ?_); refine box_event ?hg (N := 6) ?hd (cs := #[.string (⟨#[]⟩ : ByteArray), .slice none 0 0]) (t := 56) ?hr ?_; (case hd => rfl); (case hg => rfl); (case hr => exact zq13); intro gb367 hg w61 hbox hb; have n_ := as7 (blk_below (zq0 BK355.out) hb) (below_step zq4 hb) (hbox) ((zq39 : w.heap.size ≤ gb367)) ((zq39 : w.heap.size ≤ gb367)) ((zq41 : gb355 ≠ gb367)) ((zq42 : gb367 ≠ gb355)); clear BK355 HB hb hbox hg; obtain ⟨BK355, HB, BK367, GW367, GE367, NB355_367, NB367_355⟩ := n_; have hnb62 := NB367_355.out; have hnc62 := NB355_367.out; obtain ⟨hcz63_0, hcz63_1, hfz63_0, hfz63_1⟩ := bcs2 BK367.out) | ((with_reducible refine gate_store (t := 56) (p := 6) rfl ?_); refine store_event (t := 56) (p := 6) (v := ?vo_w64) (w1 := ((w61.setCell ⟨gb367, 0, none⟩ (.string ((rd_T56 l0_2 x51_2).f0))).setCell ⟨gb367, 1, none⟩ (.slice A366_1 ((rd_T56 l0_2 x51_2).f1).length c366_1))) ?hg ?ho ?hn ?hr ?_; (case ho => rfl); (case hg => rfl); (case hn => rfl); (case hr => exact zq13); intro w64 hw; have n_ := as3 ((by rw [hw]; exact (bch1 NB355_367.out BK355.out)) : w64.heap[gb355]? = some (.cells #[.int .i64 a0_0, .slice A0_1 l0_1.length c0_1, .slice (some ad366) l0_2.length c0_2] 25 (0, 0))) ((by rw [hw]; exact (bch0p BK367.out)) : w64.heap[gb367]? = some (.cells #[.string ((rd_T56 l0_2 x51_2).f0), .slice A366_1 ((rd_T56 l0_2 x51_2).f1).length c366_1] 56 (0, 0))) ((by rw [hw]; exact zq16) : Below w.heap.size w w64); clear hw BK355 BK367 HB; obtain ⟨BK355, BK367, HB⟩ := n_; obtain ⟨hcz65_0, hcz65_1, hfz65_0, hfz65_1⟩ := bcs2 BK367.out) | ((with_reducible refine gate_callee (f := 71) rfl ?_); refine goesL_ (some 59) rfl rfl Try.func71 zq26 rfl #[.string ((rd_T56 l0_2 x51_2).f0)] rfl zq3 ?_; (with_reducible refine (inspect_isName.calls k2 ((rd_T56 l0_2 x51_2).f0) true _ A55.out).mono ?_); rintro e w' ⟨rfl, ⟨nd, rfl⟩⟩; refine ⟨_, rfl, ?_⟩; obtain ⟨hcz66_0, hcz66_1, hcz66_2, hfz66_0, hfz66_1, hfz66_2⟩ := bcs3 BK355.out; have q67 : (x51_2 : Int) ≤ ((l0_2.length : Int) : Int) := of_decide_eq_true zq5; obtain ⟨i067, hi067, _, hsz67, _⟩ := info_parts info56; have hroom67 : l0_2.length ≤ c0_2 := HC0_2.out; have hC67 : Kd.C k56 _ (some ad366) l0_2.length l0_2 := HR0_2.out; have hcut67 := cut_to (P := Try.prog) 23 56 .i64 Try.underlying23 hi067 (some ad366) l0_2.length c0_2 x51_2 (of_decide_eq_true zq5) q67 hroom67; have hr67 := Kd.C_take (m := (x51_2 : Int).toNat) hC67 zq18; have hy67 : y369.length = (x51_2 : Int).toNat := (by rw [Ny369.out, List.length_take]; omega); rw [← Ny369.out] at hr67; rw [← hy67] at hcut67; have HR372 := Aside0.mk hr67; have HC372 := Aside0.mk (show y369.length ≤ c0_2 from by omega); clear hr67 hC67 hroom67 hi067 hsz67; have KY67 := Aside0.mk hy67; clear hy67; replace q67 := eq_true q67) | ((with_reducible refine gate_callee (f := 74) rfl ?_); refine goesL_ (some 67) rfl rfl Try.func74 zq26 rfl #[.slice (some ad366) y369.length c0_2, .func (.func 75) #[] #[.pointer (some ⟨gb367, 0, none⟩)]] rfl zq3 ?_; (with_reducible refine (HasStand.calls _ _ y369 gb367 ((rd_T56 l0_2 x51_2).f0) A366_1 c366_1 ((rd_T56 l0_2 x51_2).f1) true _ ?side1 ?side2 ?side3 A59.out).mono ?_); (case side1 => exact zq46); (case side2 => exact HC372.out); (case side3 => exact (zq0 BK367.out)); rintro e w68 ⟨rfl, hb⟩; refine ⟨_, rfl, ?_⟩; have n_ := as3 (blk_below (zq0 BK355.out) hb) (blk_below (zq0 BK367.out) hb) (below_step zq16 hb); clear BK355 BK367 HB; obtain ⟨BK355, BK367, HB⟩ := n_; (try clear hb); (try clear hb2); (try clear hk); (try clear hi)))
               go_ret
               exact ⟨zq9, zq16⟩
              ·replace c60 := Bool.eq_false_iff.mpr c60
               subst c60
               have H1 : ((inspect_claimsError.f k2 a0_0 l0_1 l0_2 ((rd_T56 l0_2 x51_2).f1)).bind fun t374 => (if t374 = 0 then (inspect_Check.l1 k2 l0_2 (l0_2.length : Int) (wrap64 (x51_2 + 1)) a0_0 l0_1 l0_2) else (some t374))) = some r := by rw [if_neg (show ¬ (false = true) by decide)] at H; exact H
               clear H
               have H := H1
               clear H1
               replace H := Option.bind_eq_some_iff.mp H
               obtain ⟨t374, A690, H⟩ := H
               replace H : (if t374 = 0 then (inspect_Check.l1 k2 l0_2 (l0_2.length : Int) (wrap64 (x51_2 + 1)) a0_0 l0_1 l0_2) else (some t374)) = some r := H
               have A69 := Aside0.mk A690
               clear A690
               by_cases c70 : t374 = 0
               ·rw [if_pos c70] at H
                have c70b0 : (t374 == 0) = true := beq_iff_eq.mpr c70
                have c70b1 : (t374 != 0) = false := bne_eq_false_iff_eq.mpr c70
                clear c70
                have H' := Aside0.mk H
                clear H
                have p366 : 0 ≤ (x51_2 : Int) := of_decide_eq_true zq5
                have q366 : x51_2 < (l0_2.length : Int) := of_decide_eq_true zq5
                obtain ⟨ad366, A366_1, c366_1, e366, hx366_0, hx366_1, hl366_1, hi366_1⟩ := at_T56 HR0_2.out x51_2 p366 q366
                cases e366
                replace hx366_0 := hcx HB.out hx366_0
                replace hx366_1 := hcx HB.out hx366_1
                have HR366_1 := Aside0.mk hi366_1
                have HC366_1 := Aside0.mk hl366_1
                clear hi366_1 hl366_1
                replace p366 := eq_true p366
                replace q366 := eq_true q366
                go_wp2_with (first | ((with_reducible refine gate_dst (N := 6) rfl ?_); refine box_event ?hg (N := 6) ?hd (cs := #[.string (⟨#[]⟩ : ByteArray), .slice none 0 0]) (t := 56) ?hr ?_; (case hd => rfl); (case hg => rfl); (case hr => exact zq13); intro gb367 hg w71 hbox hb; have n_ := as7 (blk_below (zq0 BK355.out) hb) (below_step zq4 hb) (hbox) ((zq39 : w.heap.size ≤ gb367)) ((zq39 : w.heap.size ≤ gb367)) ((zq41 : gb355 ≠ gb367)) ((zq42 : gb367 ≠ gb355)); clear BK355 HB hb hbox hg; obtain ⟨BK355, HB, BK367, GW367, GE367, NB355_367, NB367_355⟩ := n_; have hnb72 := NB367_355.out; have hnc72 := NB355_367.out; obtain ⟨hcz73_0, hcz73_1, hfz73_0, hfz73_1⟩ := bcs2 BK367.out) | ((with_reducible refine gate_store (t := 56) (p := 6) rfl ?_); refine store_event (t := 56) (p := 6) (v := ?vo_w74) (w1 := ((w71.setCell ⟨gb367, 0, none⟩ (.string ((rd_T56 l0_2 x51_2).f0))).setCell ⟨gb367, 1, none⟩ (.slice A366_1 ((rd_T56 l0_2 x51_2).f1).length c366_1))) ?hg ?ho ?hn ?hr ?_; (case ho => rfl); (case hg => rfl); (case hn => rfl); (case hr => exact zq13); intro w74 hw; have n_ := as3 ((by rw [hw]; exact (bch1 NB355_367.out BK355.out)) : w74.heap[gb355]? = some (.cells #[.int .i64 a0_0, .slice A0_1 l0_1.length c0_1, .slice (some ad366) l0_2.length c0_2] 25 (0, 0))) ((by rw [hw]; exact (bch0p BK367.out)) : w74.heap[gb367]? = some (.cells #[.string ((rd_T56 l0_2 x51_2).f0), .slice A366_1 ((rd_T56 l0_2 x51_2).f1).length c366_1] 56 (0, 0))) ((by rw [hw]; exact zq16) : Below w.heap.size w w74); clear hw BK355 BK367 HB; obtain ⟨BK355, BK367, HB⟩ := n_; obtain ⟨hcz75_0, hcz75_1, hfz75_0, hfz75_1⟩ := bcs2 BK367.out) | ((with_reducible refine gate_callee (f := 71) rfl ?_); refine goesL_ (some 59) rfl rfl Try.func71 zq26 rfl #[.string ((rd_T56 l0_2 x51_2).f0)] rfl zq3 ?_; (with_reducible refine (inspect_isName.calls k2 ((rd_T56 l0_2 x51_2).f0) true _ A55.out).mono ?_); rintro e w' ⟨rfl, ⟨nd, rfl⟩⟩; refine ⟨_, rfl, ?_⟩; obtain ⟨hcz76_0, hcz76_1, hcz76_2, hfz76_0, hfz76_1, hfz76_2⟩ := bcs3 BK355.out; have q77 : (x51_2 : Int) ≤ ((l0_2.length : Int) : Int) := of_decide_eq_true zq5; obtain ⟨i077, hi077, _, hsz77, _⟩ := info_parts info56; have hroom77 : l0_2.length ≤ c0_2 := HC0_2.out; have hC77 : Kd.C k56 _ (some ad366) l0_2.length l0_2 := HR0_2.out; have hcut77 := cut_to (P := Try.prog) 23 56 .i64 Try.underlying23 hi077 (some ad366) l0_2.length c0_2 x51_2 (of_decide_eq_true zq5) q77 hroom77; have hr77 := Kd.C_take (m := (x51_2 : Int).toNat) hC77 zq18; have hy77 : y369.length = (x51_2 : Int).toNat := (by rw [Ny369.out, List.length_take]; omega); rw [← Ny369.out] at hr77; rw [← hy77] at hcut77; have HR372 := Aside0.mk hr77; have HC372 := Aside0.mk (show y369.length ≤ c0_2 from by omega); clear hr77 hC77 hroom77 hi077 hsz77; have KY77 := Aside0.mk hy77; clear hy77; replace q77 := eq_true q77) | ((with_reducible refine gate_callee (f := 74) rfl ?_); refine goesL_ (some 67) rfl rfl Try.func74 zq26 rfl #[.slice (some ad366) y369.length c0_2, .func (.func 75) #[] #[.pointer (some ⟨gb367, 0, none⟩)]] rfl zq3 ?_; (with_reducible refine (HasStand.calls _ _ y369 gb367 ((rd_T56 l0_2 x51_2).f0) A366_1 c366_1 ((rd_T56 l0_2 x51_2).f1) false _ ?side1 ?side2 ?side3 A59.out).mono ?_); (case side1 => exact zq46); (case side2 => exact HC372.out); (case side3 => exact (zq0 BK367.out)); rintro e w78 ⟨rfl, hb⟩; refine ⟨_, rfl, ?_⟩; have n_ := as3 (blk_below (zq0 BK355.out) hb) (blk_below (zq0 BK367.out) hb) (below_step zq16 hb); clear BK355 BK367 HB; obtain ⟨BK355, BK367, HB⟩ := n_; (try clear hb); (try clear hb2); (try clear hk); (try clear hi); obtain ⟨hcz79_0, hcz79_1, hcz79_2, hfz79_0, hfz79_1, hfz79_2⟩ := bcs3 BK355.out; obtain ⟨hcz80_0, hcz80_1, hfz80_0, hfz80_1⟩ := bcs2 BK367.out) | ((with_reducible refine gate_callee (f := 76) rfl ?_); refine goesL_ (some 71) rfl rfl Try.func76 zq26 rfl #[.agg #[.int .i64 a0_0, .slice A0_1 l0_1.length c0_1, .slice (some ad366) l0_2.length c0_2], .slice A366_1 ((rd_T56 l0_2 x51_2).f1).length c366_1] rfl zq3 ?_; (with_reducible refine (inspect_claimsError.calls k2 a0_0 _ _ l0_1 _ _ l0_2 _ _ ((rd_T56 l0_2 x51_2).f1) t374 _ ?side1 ?side2 ?side3 ?side4 ?side5 ?side6 A69.out).mono ?_); (case side1 => exact zq7); (case side2 => exact HC0_1.out); (case side3 => exact zq8); (case side4 => exact HC0_2.out); (case side5 => exact zq55); (case side6 => exact HC366_1.out); rintro e w81 ⟨rfl, hb⟩; refine ⟨_, rfl, ?_⟩; have n_ := as3 (blk_below (zq0 BK355.out) hb) (blk_below (zq0 BK367.out) hb) (below_step zq16 hb); clear BK355 BK367 HB; obtain ⟨BK355, BK367, HB⟩ := n_; (try clear hb); (try clear hb2); (try clear hk); (try clear hi)))
                go_roundg k2
                case measure => have := HK1.out; have := HK2.out; omega
                case rel => exact ⟨(wrap64 (x51_2 + 1)), zq20, H', ⟨by have := HK1.out; have := HK2.out; omega⟩, ⟨(zq0 BK355.out)⟩, ⟨zq16⟩⟩
               ·rw [if_neg c70] at H
                have c70b0 : (t374 == 0) = false := beq_eq_false_iff_ne.mpr c70
                have c70b1 : (t374 != 0) = true := bne_iff_ne.mpr c70
                obtain rfl := Option.some.inj H
                have p366 : 0 ≤ (x51_2 : Int) := of_decide_eq_true zq5
                have q366 : x51_2 < (l0_2.length : Int) := of_decide_eq_true zq5
                obtain ⟨ad366, A366_1, c366_1, e366, hx366_0, hx366_1, hl366_1, hi366_1⟩ := at_T56 HR0_2.out x51_2 p366 q366
                cases e366
                replace hx366_0 := hcx HB.out hx366_0
                replace hx366_1 := hcx HB.out hx366_1
                have HR366_1 := Aside0.mk hi366_1
                have HC366_1 := Aside0.mk hl366_1
                clear hi366_1 hl366_1
                replace p366 := eq_true p366
                replace q366 := eq_true q366
                go_wp2_with (first | ((with_reducible refine gate_dst (N := 6) rfl ?_); refine box_event ?hg (N := 6) ?hd (cs := #[.string (⟨#[]⟩ : ByteArray), .slice none 0 0]) (t := 56) ?hr ?_; (case hd => rfl); (case hg => rfl); (case hr => exact zq13); intro gb367 hg w82 hbox hb; have n_ := as7 (blk_below (zq0 BK355.out) hb) (below_step zq4 hb) (hbox) ((zq39 : w.heap.size ≤ gb367)) ((zq39 : w.heap.size ≤ gb367)) ((zq41 : gb355 ≠ gb367)) ((zq42 : gb367 ≠ gb355)); clear BK355 HB hb hbox hg; obtain ⟨BK355, HB, BK367, GW367, GE367, NB355_367, NB367_355⟩ := n_; have hnb83 := NB367_355.out; have hnc83 := NB355_367.out; obtain ⟨hcz84_0, hcz84_1, hfz84_0, hfz84_1⟩ := bcs2 BK367.out) | ((with_reducible refine gate_store (t := 56) (p := 6) rfl ?_); refine store_event (t := 56) (p := 6) (v := ?vo_w85) (w1 := ((w82.setCell ⟨gb367, 0, none⟩ (.string ((rd_T56 l0_2 x51_2).f0))).setCell ⟨gb367, 1, none⟩ (.slice A366_1 ((rd_T56 l0_2 x51_2).f1).length c366_1))) ?hg ?ho ?hn ?hr ?_; (case ho => rfl); (case hg => rfl); (case hn => rfl); (case hr => exact zq13); intro w85 hw; have n_ := as3 ((by rw [hw]; exact (bch1 NB355_367.out BK355.out)) : w85.heap[gb355]? = some (.cells #[.int .i64 a0_0, .slice A0_1 l0_1.length c0_1, .slice (some ad366) l0_2.length c0_2] 25 (0, 0))) ((by rw [hw]; exact (bch0p BK367.out)) : w85.heap[gb367]? = some (.cells #[.string ((rd_T56 l0_2 x51_2).f0), .slice A366_1 ((rd_T56 l0_2 x51_2).f1).length c366_1] 56 (0, 0))) ((by rw [hw]; exact zq16) : Below w.heap.size w w85); clear hw BK355 BK367 HB; obtain ⟨BK355, BK367, HB⟩ := n_; obtain ⟨hcz86_0, hcz86_1, hfz86_0, hfz86_1⟩ := bcs2 BK367.out) | ((with_reducible refine gate_callee (f := 71) rfl ?_); refine goesL_ (some 59) rfl rfl Try.func71 zq26 rfl #[.string ((rd_T56 l0_2 x51_2).f0)] rfl zq3 ?_; (with_reducible refine (inspect_isName.calls k2 ((rd_T56 l0_2 x51_2).f0) true _ A55.out).mono ?_); rintro e w' ⟨rfl, ⟨nd, rfl⟩⟩; refine ⟨_, rfl, ?_⟩; obtain ⟨hcz87_0, hcz87_1, hcz87_2, hfz87_0, hfz87_1, hfz87_2⟩ := bcs3 BK355.out; have q88 : (x51_2 : Int) ≤ ((l0_2.length : Int) : Int) := of_decide_eq_true zq5; obtain ⟨i088, hi088, _, hsz88, _⟩ := info_parts info56; have hroom88 : l0_2.length ≤ c0_2 := HC0_2.out; have hC88 : Kd.C k56 _ (some ad366) l0_2.length l0_2 := HR0_2.out; have hcut88 := cut_to (P := Try.prog) 23 56 .i64 Try.underlying23 hi088 (some ad366) l0_2.length c0_2 x51_2 (of_decide_eq_true zq5) q88 hroom88; have hr88 := Kd.C_take (m := (x51_2 : Int).toNat) hC88 zq18; have hy88 : y369.length = (x51_2 : Int).toNat := (by rw [Ny369.out, List.length_take]; omega); rw [← Ny369.out] at hr88; rw [← hy88] at hcut88; have HR372 := Aside0.mk hr88; have HC372 := Aside0.mk (show y369.length ≤ c0_2 from by omega); clear hr88 hC88 hroom88 hi088 hsz88; have KY88 := Aside0.mk hy88; clear hy88; replace q88 := eq_true q88) | ((with_reducible refine gate_callee (f := 74) rfl ?_); refine goesL_ (some 67) rfl rfl Try.func74 zq26 rfl #[.slice (some ad366) y369.length c0_2, .func (.func 75) #[] #[.pointer (some ⟨gb367, 0, none⟩)]] rfl zq3 ?_; (with_reducible refine (HasStand.calls _ _ y369 gb367 ((rd_T56 l0_2 x51_2).f0) A366_1 c366_1 ((rd_T56 l0_2 x51_2).f1) false _ ?side1 ?side2 ?side3 A59.out).mono ?_); (case side1 => exact zq46); (case side2 => exact HC372.out); (case side3 => exact (zq0 BK367.out)); rintro e w89 ⟨rfl, hb⟩; refine ⟨_, rfl, ?_⟩; have n_ := as3 (blk_below (zq0 BK355.out) hb) (blk_below (zq0 BK367.out) hb) (below_step zq16 hb); clear BK355 BK367 HB; obtain ⟨BK355, BK367, HB⟩ := n_; (try clear hb); (try clear hb2); (try clear hk); (try clear hi); obtain ⟨hcz90_0, hcz90_1, hcz90_2, hfz90_0, hfz90_1, hfz90_2⟩ := bcs3 BK355.out; obtain ⟨hcz91_0, hcz91_1, hfz91_0, hfz91_1⟩ := bcs2 BK367.out) | ((with_reducible refine gate_callee (f := 76) rfl ?_); refine goesL_ (some 71) rfl rfl Try.func76 zq26 rfl #[.agg #[.int .i64 a0_0, .slice A0_1 l0_1.length c0_1, .slice (some ad366) l0_2.length c0_2], .slice A366_1 ((rd_T56 l0_2 x51_2).f1).length c366_1] rfl zq3 ?_; (with_reducible refine (inspect_claimsError.calls k2 a0_0 _ _ l0_1 _ _ l0_2 _ _ ((rd_T56 l0_2 x51_2).f1) t374 _ ?side1 ?side2 ?side3 ?side4 ?side5 ?side6 A69.out).mono ?_); (case side1 => exact zq7); (case side2 => exact HC0_1.out); (case side3 => exact zq8); (case side4 => exact HC0_2.out); (case side5 => exact zq55); (case side6 => exact HC366_1.out); rintro e w92 ⟨rfl, hb⟩; refine ⟨_, rfl, ?_⟩; have n_ := as3 (blk_below (zq0 BK355.out) hb) (blk_below (zq0 BK367.out) hb) (below_step zq16 hb); clear BK355 BK367 HB; obtain ⟨BK355, BK367, HB⟩ := n_; (try clear hb); (try clear hb2); (try clear hk); (try clear hi)))
                go_ret
                exact ⟨zq9, zq16⟩
             ·rw [if_neg c58] at H
              exact absurd H zq51
            ·replace c56 := Bool.eq_false_iff.mpr c56
             subst c56
             have H1 : (some 5) = some r := by rw [if_neg (show ¬ (false = true) by decide)] at H; exact H
             clear H
             have H := H1
             clear H1
             obtain rfl := Option.some.inj H
             have p366 : 0 ≤ (x51_2 : Int) := of_decide_eq_true zq5
             have q366 : x51_2 < (l0_2.length : Int) := of_decide_eq_true zq5
             obtain ⟨ad366, A366_1, c366_1, e366, hx366_0, hx366_1, hl366_1, hi366_1⟩ := at_T56 HR0_2.out x51_2 p366 q366
             cases e366
             replace hx366_0 := hcx HB.out hx366_0
             replace hx366_1 := hcx HB.out hx366_1
             have HR366_1 := Aside0.mk hi366_1
             have HC366_1 := Aside0.mk hl366_1
             clear hi366_1 hl366_1
             replace p366 := eq_true p366
             replace q366 := eq_true q366
             go_wp2_with (first | ((with_reducible refine gate_dst (N := 6) rfl ?_); refine box_event ?hg (N := 6) ?hd (cs := #[.string (⟨#[]⟩ : ByteArray), .slice none 0 0]) (t := 56) ?hr ?_; (case hd => rfl); (case hg => rfl); (case hr => exact zq13); intro gb367 hg w93 hbox hb; have n_ := as7 (blk_below (zq0 BK355.out) hb) (below_step zq4 hb) (hbox) ((zq39 : w.heap.size ≤ gb367)) ((zq39 : w.heap.size ≤ gb367)) ((zq41 : gb355 ≠ gb367)) ((zq42 : gb367 ≠ gb355)); clear BK355 HB hb hbox hg; obtain ⟨BK355, HB, BK367, GW367, GE367, NB355_367, NB367_355⟩ := n_; have hnb94 := NB367_355.out; have hnc94 := NB355_367.out; obtain ⟨hcz95_0, hcz95_1, hfz95_0, hfz95_1⟩ := bcs2 BK367.out) | ((with_reducible refine gate_callee (f := 71) rfl ?_); refine goesL_ (some 59) rfl rfl Try.func71 zq26 rfl #[.string ((rd_T56 l0_2 x51_2).f0)] rfl zq3 ?_; (with_reducible refine (inspect_isName.calls k2 ((rd_T56 l0_2 x51_2).f0) false _ A55.out).mono ?_); rintro e w' ⟨rfl, ⟨nd, rfl⟩⟩; refine ⟨_, rfl, ?_⟩))
             go_ret
             exact ⟨zq9, zq16⟩
           ·rw [if_neg c54] at H
            exact absurd H zq51
          ·rw [if_neg c53] at H
           exact absurd H zq51
         ·rw [if_neg c52] at H
          have c52b0 : decide (x51_2 < (l0_2.length : Int)) = false := decide_eq_false c52
          clear c52
          obtain rfl := Option.some.inj H
          go_wp2
          go_ret
          exact ⟨zq9, zq4⟩
 ·replace c3 := Bool.eq_false_iff.mpr c3
  subst c3
  have H1 : (some 1) = some r := by rw [if_neg (show ¬ (false = true) by decide)] at H; exact H
  clear H
  have H := H1
  clear H1
  obtain rfl := Option.some.inj H
  go_enter Try.func48, Try.ntmps48
  go_wp2_with (first | ((with_reducible refine gate_dst (N := 1) rfl ?_); refine box_event ?hg (N := 1) ?hd (cs := #[.int .i64 a0_0, .slice A0_1 l0_1.length c0_1, .slice A0_2 l0_2.length c0_2]) (t := 25) ?hr ?_; (case hd => rfl); (case hg => rfl); (case hr => exact zq13); intro gb355 hg w96 hbox hb; have n_ := as4 (below_step zq2 hb) (hbox) ((zq23 : w.heap.size ≤ gb355)) ((zq23 : w.heap.size ≤ gb355)); clear HB hb hbox hg; obtain ⟨HB, BK355, GW355, GE355⟩ := n_; obtain ⟨hcz97_0, hcz97_1, hcz97_2, hfz97_0, hfz97_1, hfz97_2⟩ := bcs3 BK355.out) | ((with_reducible refine gate_callee (f := 36) rfl ?_); refine goesL_ (some 11) rfl rfl Try.func36 zq26 rfl #[.int .i64 a0_0, .int .i64 1, .int .i64 1000000000] rfl zq3 ?_; (with_reducible refine (inspect_within.calls a0_0 1 1000000000 false _ A2.out).mono ?_); rintro e w' ⟨rfl, ⟨nd, rfl⟩⟩; refine ⟨_, rfl, ?_⟩))
  go_ret
  exact ⟨zq9, zq4⟩
end Go.Proofs.Ytbpebehbfpgjbaa.P
end
