/- Texts of the proof, joined: what they prove stands at each theorem. -/
import Derived.Test.YtbpebehbfpgjbaaCbb
import Derived.Test.YtbpebehbfpgjbaaCbe
import Derived.Test.YtbpebehbfpgjbaaCbf
section
namespace Go.Proofs.Ytbpebehbfpgjbaa.P
open Go.RowKit Go.Proofs.YtbpebehbfpgjbaaW.PrintWords Go.Proofs.YtbpebehbfpgjbaaW.PrintLast Go.Proofs.YtbpebehbfpgjbaaW.PrintMore
attribute [local go_sem] max2_int min2_int max_two min_two max_three min_three max_four min_four
set_option linter.unusedVariables false
set_option linter.unusedSimpArgs false
def culletref07_put.l0 : Nat → List Int → Int → Int → Option (List Int)
 | 0, _, _, _ => none
 | k + 1, x0, x1, x5 => if x5 < (x0.length : Int) then (if 0 ≤ x5 then (if (rd x0 x5) < x1 then (culletref07_put.l0 k x0 x1 (wrap64 (x5 + 1))) else (if (rd x0 x5) = x1 then (some x0) else ((some (([] : List Int) : List Int)).bind fun y212 => (if x5 ≤ (x0.length : Int) then ((some (x0.take (x5 : Int).toNat : List Int)).bind fun y215 => (if y212.length + y215.length < 17592186044416 then ((some (y212 ++ y215 : List Int)).bind fun y220 => ((some (([x1] : List Int) : List Int)).bind fun y223 => (if y220.length + y223.length < 17592186044416 then ((some (y220 ++ y223 : List Int)).bind fun y226 => ((some (x0.drop (x5 : Int).toNat : List Int)).bind fun y229 => (if y226.length + y229.length < 17592186044416 then (some (y226 ++ y229)) else (none)))) else (none)))) else (none))) else (none))))) else (none)) else ((some (([] : List Int) : List Int)).bind fun y237 => (if 0 ≤ x5 then (if x5 ≤ (x0.length : Int) then ((some (x0.take (x5 : Int).toNat : List Int)).bind fun y240 => (if y237.length + y240.length < 17592186044416 then ((some (y237 ++ y240 : List Int)).bind fun y245 => ((some (([x1] : List Int) : List Int)).bind fun y248 => (if y245.length + y248.length < 17592186044416 then ((some (y245 ++ y248 : List Int)).bind fun y251 => ((some (x0.drop (x5 : Int).toNat : List Int)).bind fun y254 => (if y251.length + y254.length < 17592186044416 then (some (y251 ++ y254)) else (none)))) else (none)))) else (none))) else (none)) else (none)))
def culletref07_put.f (k : Nat) (l0 : List Int) (a1 : Int) : Option (List Int) := culletref07_put.l0 k l0 a1 0
def culletref07_put.T6 : Bool × List (List Nat × List Nat) := (true, [([], []), ([], []), ([], []), ([1, 2], [1, 2]), ([0, 3], [0, 3]), ([], []), ([5], [5]), ([4, 6, 4], [4, 6]), ([], []), ([], []), ([8, 9], [8, 9]), ([7, 10, 7], [7, 10]), ([11, 11, 0, 1, 2, 3, 4, 5, 6, 7, 8, 9, 10, 11], [11])])
def culletref07_put.B6 : List Nat := [0, 0, 0, 6, 15, 0, 32, 127, 0, 0, 768, 2047, 4095]
theorem culletref07_put.tab6 : rtab .any (opsOf Try.f69 6) = culletref07_put.T6 := by kernel_rfl
theorem culletref07_put.bits6 : waitsOk culletref07_put.T6.2 culletref07_put.B6 = true := by kernel_rfl
set_option maxHeartbeats 8000000 in
set_option maxRecDepth 100000 in
theorem culletref07_put.calls (k : Nat) (P0_ : Nat → Prop) (A0 : Option Addr) (c0 : Nat) (l0 : List Int) (a1 : Int) (r : List Int) (w : World) (hs0 : Kd.V (Kd.int .i64) 3 w w.heap.size (fun k_ => P0_ k_) (.slice A0 l0.length c0) l0) (h : culletref07_put.f k l0 a1 = some r) :
  Calls Try.prog 69 #[.slice A0 l0.length c0, .int .i64 a1] w fun e w' => ∃ v0_ : Value, e = .returned (v0_) ∧ Kd.V (Kd.int .i64) 3 w' w.heap.size (fun k_ => (P0_ k_ ∨ w.heap.size ≤ k_)) v0_ r ∧ Below w.heap.size w w' := by
 have HO0 := Aside0.mk (show Kd.V (Kd.int .i64) 3 w w.heap.size (fun k_ => (P0_ k_ ∨ w.heap.size ≤ k_)) (.slice A0 l0.length c0) l0 from Kd.V_mono hs0 (fun k_ hk => .inl hk))
 have HB := Aside0.mk (Below.refl w.heap.size w)
 have H : (culletref07_put.l0 k l0 a1 0) = some r := h
 clear h
 have H' := Aside0.mk H
 clear H
 go_enter Try.func69, Try.ntmps69
 go_wp2
 go_loopg [5] k (fun kq v5 w' => ∃ (x5_1 : Int), v5 = .int .i64 x5_1 ∧ Aside0 (culletref07_put.l0 kq l0 a1 x5_1 = some r) ∧ Aside0 (kq ≤ k) ∧ Aside0 (Kd.V (Kd.int .i64) 3 w' w.heap.size (fun k_ => (P0_ k_ ∨ w.heap.size ≤ k_)) (.slice A0 l0.length c0) l0) ∧ Aside0 (Below w.heap.size w w'))
 case atStart => exact ⟨(0), zq10, H', ⟨Nat.le_refl _⟩, ⟨(zq2 HO0.out)⟩, ⟨zq3⟩⟩
 case round =>
  clear H'
  try clear p2
  obtain ⟨x5_1, rfl, HA, HK1, HO_0, HB⟩ := hrel
  cases gk with
  | zero => exact absurd HA.out (by simp [culletref07_put.l0])
  | succ k1 =>
   have H := HA.out
   clear HA
   simp only [culletref07_put.l0] at H
   by_cases c3 : x5_1 < (l0.length : Int)
   ·rw [if_pos c3] at H
    have c3b0 : decide (x5_1 < (l0.length : Int)) = true := decide_eq_true c3
    clear c3
    by_cases c4 : 0 ≤ x5_1
    ·rw [if_pos c4] at H
     have c4b0 : decide (0 ≤ x5_1) = true := decide_eq_true c4
     clear c4
     by_cases c5 : (rd l0 x5_1) < a1
     ·rw [if_pos c5] at H
      have c5b0 : decide ((rd l0 x5_1) < a1) = true := decide_eq_true c5
      clear c5
      have H' := Aside0.mk H
      clear H
      have p210 : 0 ≤ (x5_1 : Int) := of_decide_eq_true zq7
      have q210 : x5_1 < (l0.length : Int) := of_decide_eq_true zq7
      obtain ⟨ad210, e210, hx210_0⟩ := Kd.at_int (Kd.V_reads' HO_0.out).2.2 x5_1 p210 q210
      cases e210
      replace p210 := eq_true p210
      replace q210 := eq_true q210
      go_wp2
      go_roundg k1
      case measure => have := HK1.out; omega
      case rel => exact ⟨(wrap64 (x5_1 + 1)), zq10, H', ⟨zq79⟩, ⟨(zq2 HO_0.out)⟩, ⟨zq3⟩⟩
     ·rw [if_neg c5] at H
      have c5b0 : decide ((rd l0 x5_1) < a1) = false := decide_eq_false c5
      clear c5
      by_cases c6 : (rd l0 x5_1) = a1
      ·rw [if_pos c6] at H
       have c6b0 : ((rd l0 x5_1) == a1) = true := beq_iff_eq.mpr c6
       have c6b1 : ((rd l0 x5_1) != a1) = false := bne_eq_false_iff_eq.mpr c6
       clear c6
       obtain rfl := Option.some.inj H
       have p210 : 0 ≤ (x5_1 : Int) := of_decide_eq_true zq7
       have q210 : x5_1 < (l0.length : Int) := of_decide_eq_true zq7
       obtain ⟨ad210, e210, hx210_0⟩ := Kd.at_int (Kd.V_reads' HO_0.out).2.2 x5_1 p210 q210
       cases e210
       replace p210 := eq_true p210
       replace q210 := eq_true q210
       have p211 : 0 ≤ (x5_1 : Int) := of_decide_eq_true zq7
       have q211 : x5_1 < (l0.length : Int) := of_decide_eq_true zq7
       obtain ⟨ad211, e211, hx211_0⟩ := Kd.at_int (Kd.V_reads' HO_0.out).2.2 x5_1 p211 q211
       obtain rfl : ad210 = ad211 := (by injection e211)
       replace p211 := eq_true p211
       replace q211 := eq_true q211
       go_wp2
       go_ret
       exact ⟨_, zq9, (zq2 HO_0.out), zq3⟩
      ·rw [if_neg c6] at H
       have c6b0 : ((rd l0 x5_1) == a1) = false := beq_eq_false_iff_ne.mpr c6
       have c6b1 : ((rd l0 x5_1) != a1) = true := bne_iff_ne.mpr c6
       obtain ⟨y212, hy212⟩ : ∃ y_ : List Int, y_ = (([] : List Int)) := ⟨_, rfl⟩
       replace H : (if x5_1 ≤ (l0.length : Int) then ((some (l0.take (x5_1 : Int).toNat : List Int)).bind fun y215 => (if y212.length + y215.length < 17592186044416 then ((some (y212 ++ y215 : List Int)).bind fun y220 => ((some (([a1] : List Int) : List Int)).bind fun y223 => (if y220.length + y223.length < 17592186044416 then ((some (y220 ++ y223 : List Int)).bind fun y226 => ((some (l0.drop (x5_1 : Int).toNat : List Int)).bind fun y229 => (if y226.length + y229.length < 17592186044416 then (some (y226 ++ y229)) else (none)))) else (none)))) else (none))) else (none)) = some r := by first | (rw [hy212]; with_reducible exact H) | (have H2_ := (Option.bind_some _ _).symm.trans H; rw [hy212]; with_reducible exact H2_) | (have H2_ := (Option.bind_some _ _).symm.trans H; with_reducible exact H2_) | with_reducible exact H | (rw [hy212]; exact H) | exact H
       have Ny212 := Aside0.mk hy212
       clear hy212
       have c7b0 := eq_true (of_decide_eq_true zq7 : 0 ≤ x5_1)
       by_cases c8 : x5_1 ≤ (l0.length : Int)
       ·rw [if_pos c8] at H
        have c8b0 := eq_true c8
        have c8b1 : decide (x5_1 ≤ (l0.length : Int)) = true := decide_eq_true c8
        clear c8
        obtain ⟨y215, hy215⟩ : ∃ y_ : List Int, y_ = (l0.take (x5_1 : Int).toNat) := ⟨_, rfl⟩
        replace H : (if y212.length + y215.length < 17592186044416 then ((some (y212 ++ y215 : List Int)).bind fun y220 => ((some (([a1] : List Int) : List Int)).bind fun y223 => (if y220.length + y223.length < 17592186044416 then ((some (y220 ++ y223 : List Int)).bind fun y226 => ((some (l0.drop (x5_1 : Int).toNat : List Int)).bind fun y229 => (if y226.length + y229.length < 17592186044416 then (some (y226 ++ y229)) else (none)))) else (none)))) else (none)) = some r := by first | (rw [hy215]; with_reducible exact H) | (have H2_ := (Option.bind_some _ _).symm.trans H; rw [hy215]; with_reducible exact H2_) | (have H2_ := (Option.bind_some _ _).symm.trans H; with_reducible exact H2_) | with_reducible exact H | (rw [hy215]; exact H) | exact H
        have Ny215 := Aside0.mk hy215
        clear hy215
        by_cases c9 : y212.length + y215.length < 17592186044416
        ·rw [if_pos c9] at H
         have LMc9 := Aside0.mk c9
         clear c9
         obtain ⟨y220, hy220⟩ : ∃ y_ : List Int, y_ = (y212 ++ y215) := ⟨_, rfl⟩
         replace H : ((some (([a1] : List Int) : List Int)).bind fun y223 => (if y220.length + y223.length < 17592186044416 then ((some (y220 ++ y223 : List Int)).bind fun y226 => ((some (l0.drop (x5_1 : Int).toNat : List Int)).bind fun y229 => (if y226.length + y229.length < 17592186044416 then (some (y226 ++ y229)) else (none)))) else (none))) = some r := by first | (rw [hy220]; with_reducible exact H) | (have H2_ := (Option.bind_some _ _).symm.trans H; rw [hy220]; with_reducible exact H2_) | (have H2_ := (Option.bind_some _ _).symm.trans H; with_reducible exact H2_) | with_reducible exact H | (rw [hy220]; exact H) | exact H
         have Ny220 := Aside0.mk hy220
         clear hy220
         obtain ⟨y223, hy223⟩ : ∃ y_ : List Int, y_ = (([a1] : List Int)) := ⟨_, rfl⟩
         replace H : (if y220.length + y223.length < 17592186044416 then ((some (y220 ++ y223 : List Int)).bind fun y226 => ((some (l0.drop (x5_1 : Int).toNat : List Int)).bind fun y229 => (if y226.length + y229.length < 17592186044416 then (some (y226 ++ y229)) else (none)))) else (none)) = some r := by first | (rw [hy223]; with_reducible exact H) | (have H2_ := (Option.bind_some _ _).symm.trans H; rw [hy223]; with_reducible exact H2_) | (have H2_ := (Option.bind_some _ _).symm.trans H; with_reducible exact H2_) | with_reducible exact H | (rw [hy223]; exact H) | exact H
         have Ny223 := Aside0.mk hy223
         clear hy223
         by_cases c10 : y220.length + y223.length < 17592186044416
         ·rw [if_pos c10] at H
          have LMc10 := Aside0.mk c10
          clear c10
          obtain ⟨y226, hy226⟩ : ∃ y_ : List Int, y_ = (y220 ++ y223) := ⟨_, rfl⟩
          replace H : ((some (l0.drop (x5_1 : Int).toNat : List Int)).bind fun y229 => (if y226.length + y229.length < 17592186044416 then (some (y226 ++ y229)) else (none))) = some r := by first | (rw [hy226]; with_reducible exact H) | (have H2_ := (Option.bind_some _ _).symm.trans H; rw [hy226]; with_reducible exact H2_) | (have H2_ := (Option.bind_some _ _).symm.trans H; with_reducible exact H2_) | with_reducible exact H | (rw [hy226]; exact H) | exact H
          have Ny226 := Aside0.mk hy226
          clear hy226
          have c11b0 := eq_true (of_decide_eq_true zq7 : 0 ≤ x5_1)
          have c12b0 := eq_true (of_decide_eq_true zq7 : x5_1 ≤ (l0.length : Int))
          obtain ⟨y229, hy229⟩ : ∃ y_ : List Int, y_ = (l0.drop (x5_1 : Int).toNat) := ⟨_, rfl⟩
          replace H : (if y226.length + y229.length < 17592186044416 then (some (y226 ++ y229)) else (none)) = some r := by first | (rw [hy229]; with_reducible exact H) | (have H2_ := (Option.bind_some _ _).symm.trans H; rw [hy229]; with_reducible exact H2_) | (have H2_ := (Option.bind_some _ _).symm.trans H; with_reducible exact H2_) | with_reducible exact H | (rw [hy229]; exact H) | exact H
          have Ny229 := Aside0.mk hy229
          clear hy229
          by_cases c13 : y226.length + y229.length < 17592186044416
          ·rw [if_pos c13] at H
           have LMc13 := Aside0.mk c13
           clear c13
           obtain ⟨y234, hy234⟩ : ∃ y_ : List Int, y_ = (y226 ++ y229) := ⟨_, rfl⟩
           replace H : (some y234) = some r := by first | (rw [hy234]; with_reducible exact H) | (have H2_ := (Option.bind_some _ _).symm.trans H; rw [hy234]; with_reducible exact H2_) | (have H2_ := (Option.bind_some _ _).symm.trans H; with_reducible exact H2_) | with_reducible exact H | (rw [hy234]; exact H) | exact H
           have Ny234 := Aside0.mk hy234
           clear hy234
           obtain rfl := Option.some.inj H
           have p210 : 0 ≤ (x5_1 : Int) := of_decide_eq_true zq7
           have q210 : x5_1 < (l0.length : Int) := of_decide_eq_true zq7
           obtain ⟨ad210, e210, hx210_0⟩ := Kd.at_int (Kd.V_reads' HO_0.out).2.2 x5_1 p210 q210
           cases e210
           replace p210 := eq_true p210
           replace q210 := eq_true q210
           have p211 : 0 ≤ (x5_1 : Int) := of_decide_eq_true zq7
           have q211 : x5_1 < (l0.length : Int) := of_decide_eq_true zq7
           obtain ⟨ad211, e211, hx211_0⟩ := Kd.at_int (Kd.V_reads' HO_0.out).2.2 x5_1 p211 q211
           obtain rfl : ad210 = ad211 := (by injection e211)
           replace p211 := eq_true p211
           replace q211 := eq_true q211
           try go_wp2
           have n0_ := Aside0.mk (Kd.V_drew HO_0.out)
           have n1_ := Aside0.mk (below_drew1 HB.out)
           clear HO_0
           clear HB
           have HO_0 := n0_
           have HB := n1_
           clear n0_ n1_
           have q15 : (x5_1 : Int) ≤ ((l0.length : Int) : Int) := of_decide_eq_true zq7
           obtain ⟨i015, hi015, _, hsz15, _⟩ := info_parts info3
           have hroom15 : l0.length ≤ c0 := (Kd.V_reads' HO_0.out).2.1
           have hC15 : Kd.F (Kd.int .i64) _ _ (some ad210) l0.length l0 := (Kd.V_at (base := w.heap.size) HO_0.out).2.2
           have hcut15 := cut_to (P := Try.prog) 29 3 .i64 Try.underlying29 hi015 (some ad210) l0.length c0 x5_1 (of_decide_eq_true zq7) q15 hroom15
           have hr15 := Kd.F_take (m := (x5_1 : Int).toNat) hC15 zq17
           have hy15 : y215.length = (x5_1 : Int).toNat := (by rw [Ny215.out, List.length_take]; omega)
           rw [← Ny215.out] at hr15
           rw [← hy15] at hcut15
           have HO219 := Aside0.mk (show Kd.V (Kd.int .i64) 3 _ w.heap.size _ (.slice (some ad210) y215.length c0) y215 from Kd.V_mk zq17 hr15)
           have HC219 := Aside0.mk (show y215.length ≤ c0 from by omega)
           clear hr15 hC15 hroom15 hi015 hsz15
           have KY15 := Aside0.mk hy15
           clear hy15
           replace q15 := eq_true q15
           have q16 : (x5_1 : Int) ≤ ((l0.length : Int) : Int) := of_decide_eq_true zq7
           obtain ⟨i016, hi016, _, hsz16, _⟩ := info_parts info3
           have hroom16 : l0.length ≤ c0 := (Kd.V_reads' HO_0.out).2.1
           have hC16 : Kd.F (Kd.int .i64) _ _ (some ad210) l0.length l0 := (Kd.V_at (base := w.heap.size) HO_0.out).2.2
           have q016 : (0 : Int) ≤ (x5_1 : Int) := of_decide_eq_true zq7
           have hcut16 := cut_from (P := Try.prog) 29 3 .i64 Try.underlying29 hi016 1 hsz16 (some ad210) l0.length c0 x5_1 q016 q16
           have hr16 := Kd.F_cut (m := (x5_1 : Int).toNat) (c := c0) hC16 zq17 hroom16
           obtain ⟨A16, hA16⟩ : ∃ A1, A1 = (if c0 = (x5_1 : Int).toNat then (some ad210) else ((some ad210) : Option Addr).map (·.add ((x5_1 : Int).toNat * 1))) := ⟨_, rfl⟩
           obtain ⟨c16, hc16⟩ : ∃ c1, c1 = c0 - (x5_1 : Int).toNat := ⟨_, rfl⟩
           have hy16 : y229.length = l0.length - (x5_1 : Int).toNat := (by rw [Ny229.out, List.length_drop] <;> omega)
           rw [show (l0).drop (x5_1 : Int).toNat = y229 from Ny229.out.symm] at hr16
           replace hr16 : Kd.F (Kd.int .i64) _ _ A16 y229.length y229 := (by rw [hA16]; exact hr16)
           rw [← hy16, ← hA16, ← hc16] at hcut16
           have HO233 := Aside0.mk (show Kd.V (Kd.int .i64) 3 _ w.heap.size _ (.slice A16 y229.length c16) y229 from Kd.V_mk (by rw [hy16, hc16]; exact Nat.sub_le_sub_right hroom16 _) hr16)
           have HC233 := Aside0.mk (show y229.length ≤ c16 from by rw [hy16, hc16]; exact Nat.sub_le_sub_right hroom16 _)
           clear hr16 hC16 hroom16 hi016 hsz16 hc16
           have KY16 := Aside0.mk hy16
           have KA16 := Aside0.mk hA16
           clear hy16 hA16
           replace q16 := eq_true q16
           refine start_ (n := 13) (S := fun w' => True) (ds := []) #[false, false, false, false, false, false, false, false, false, false, false, false, false] zq22 rfl rfl trivial (fun hHeld => ?_); refine with_tabW culletref07_put.tab6 culletref07_put.bits6 (fun HT_ HW_ => ?_)
           generalize wr.drew = w14 at HO_0 HB HO219 HO233 hHeld ⊢
           refine pure_ (i := 1) (N := some 34) (v := ?_) (a' := ?_) #[false, true, false, false, false, false, false, false, false, false, false, false, false] rfl rfl (any_of HT_.out zq22) (fun _ _ _ h => h) (Or.inl ⟨zq58, ?_⟩) ?_ ?_
           rotate_left
           exact zpw
           rotate_left
           exact zpa
           refine pure_ (i := 2) (N := some 35) (v := ?_) (a' := ?_) #[false, true, true, false, false, false, false, false, false, false, false, false, false] rfl rfl (any_of HT_.out zq22) (fun _ _ _ h => h) (Or.inl ⟨zq58, ?_⟩) ?_ ?_
           rotate_left
           exact zpw
           rotate_left
           exact zpa
           refine pure_ (i := 3) (N := some 36) (v := ?_) (a' := ?_) #[false, true, true, true, false, false, false, false, false, false, false, false, false] rfl rfl (any_of HT_.out zq22) (fun _ _ _ h => h) (Or.inl ⟨zq58, ?_⟩) ?_ ?_
           rotate_left
           exact zpw
           rotate_left
           exact zpa
           refine pure_ (i := 5) (N := some 38) (v := ?_) (a' := ?_) #[false, true, true, true, false, true, false, false, false, false, false, false, false] rfl rfl (any_of HT_.out zq22) (fun _ _ _ h => h) (Or.inl ⟨zq58, ?_⟩) ?_ ?_
           rotate_left
           exact zpw
           rotate_left
           exact zpa
           refine pure_ (i := 8) (N := some 41) (v := ?_) (a' := ?_) #[false, true, true, true, false, true, false, false, true, false, false, false, false] rfl rfl (any_of HT_.out zq22) (fun _ _ _ h => h) (Or.inl ⟨zq58, ?_⟩) ?_ ?_
           rotate_left
           exact zpw
           rotate_left
           exact zpa
           refine pure_ (i := 9) (N := some 42) (v := ?_) (a' := ?_) #[false, true, true, true, false, true, false, false, true, true, false, false, false] rfl rfl (any_of HT_.out zq22) (fun _ _ _ h => h) (Or.inl ⟨zq58, ?_⟩) ?_ ?_
           rotate_left
           exact zpw
           rotate_left
           exact zpa
           refine pure_ (i := 10) (N := some 43) (v := ?_) (a' := ?_) #[false, true, true, true, false, true, false, false, true, true, true, false, false] rfl rfl (any_of HT_.out zq22) (fun _ _ _ h => h) (Or.inl ⟨zq58, ?_⟩) ?_ ?_
           rotate_left
           exact zpw
           rotate_left
           exact zpa
           refine join_ (σ := Value × Value × Value) 3 #[true, true, true, true, true, true, true, false, true, true, true, false, false] (fun s_ => [(33, s_.1), (37, s_.2.1), (39, s_.2.2)]) (fun s_ w' => (Kd.V (Kd.int .i64) 3 w' w.heap.size (fun k_ => (P0_ k_ ∨ w.heap.size ≤ k_) ∧ some k_ ≠ (s_.2.1 : Value).ownBlock ∧ some k_ ≠ (s_.2.2 : Value).ownBlock) (.slice (some ad210) y215.length c0) y215) ∧ (Kd.R (Kd.int .i64) 3 w' w.heap.size (fun k_ => (w.heap.size ≤ k_) ∧ some k_ ≠ (s_.2.2 : Value).ownBlock) s_.2.1 y220) ∧ (Kd.R (Kd.int .i64) 3 w' w.heap.size (fun k_ => (w.heap.size ≤ k_) ∧ some k_ ≠ (s_.2.1 : Value).ownBlock) s_.2.2 y223) ∧ (Kd.V (Kd.int .i64) 3 w' w.heap.size (fun k_ => (P0_ k_ ∨ w.heap.size ≤ k_) ∧ some k_ ≠ (s_.2.1 : Value).ownBlock ∧ some k_ ≠ (s_.2.2 : Value).ownBlock) (.slice A16 y229.length c16) y229) ∧ (Kd.V (Kd.int .i64) 3 w' w.heap.size (fun k_ => (P0_ k_ ∨ w.heap.size ≤ k_) ∧ some k_ ≠ (s_.2.1 : Value).ownBlock ∧ some k_ ≠ (s_.2.2 : Value).ownBlock) (.slice (some ad210) l0.length c0) l0) ∧ (Below w.heap.size w w')) ?_ ?_
           rotate_left
           ·intro hCont
            refine two_ (i := 0) (j := 6) (Ni := some 33) (Nj := some 39) #[true, true, true, true, false, true, false, false, true, true, true, false, false] #[false, true, true, true, false, true, true, false, true, true, true, false, false] rfl rfl rfl rfl (two_of HT_.out zq22) zq56 zq56 (fun K hK => ?_) (fun K hK => ?_)
            ·skip
             refine Kd.R_lit_step (Kd.int .i64) _ 3 ?hg (N := 33) ?hd (xs := ([] : List Int)) (inner := []) (ok := fun _ => True) (okp := fun _ => True) ?hr ?hp (fun _ hk => hk) trivial (Below.refl _ _) (Nat.le_refl _) zq63 ?_; (case hd => rfl); (case hg => rfl); (case hr => exact zq11); (case hp => exact (Reps.none _ _))
             intro v213 w17 ho18 hb hg_ hnew_
             clear hg_ hnew_
             (first | rw [← Ny212.out] at ho18 | (simp only [Int.reduceToNat] at ho18; rw [← Ny212.out] at ho18))
             have n0_ := Aside0.mk (Kd.V_elder' (zq2 HO_0.out) (Kd.R_base ho18) hb)
             have n1_ := Aside0.mk (Kd.V_elder' (zq2 HO219.out) (Kd.R_base ho18) hb)
             have n2_ := Aside0.mk (Kd.V_elder' (zq2 HO233.out) (Kd.R_base ho18) hb)
             have n3_ := Aside0.mk (Kd.R_lower (Kd.R_newM (M := fun k_ => (w.heap.size ≤ k_)) ho18 (below_size zq3) (fun k_ h_ => h_)) (below_size zq3))
             have n4_ := Aside0.mk (below_step zq3 hb)
             clear HO_0
             clear HO219
             clear HO233
             clear HB
             have HO_0 := n0_
             have HO219 := n1_
             have HO233 := n2_
             have HO214 := n3_
             have HB := n4_
             clear n0_ n1_ n2_ n3_ n4_
             clear hb ho18
             refine hK.out _ _ trivial (fun hHeld => ?_)
             clear hK K
             refine norm_ (a' := ?_) ?_ ?_
             rotate_left
             ·show Act.put _ (some 33) _ = _
              simp only [Act.put, List.setIfInBounds_toArray, List.set_cons_zero, List.set_cons_succ, i64_w, i32_w]
              rfl
             refine two_ (i := 4) (j := 6) (Ni := some 37) (Nj := some 39) #[true, true, true, true, true, true, false, false, true, true, true, false, false] #[true, true, true, true, false, true, true, false, true, true, true, false, false] rfl rfl rfl rfl (two_of HT_.out zq22) zq56 zq56 (fun K hK => ?_) (fun K hK => ?_)
             ·skip
              refine Kd.R_append_rows_step (Kd.int .i64) (w0 := w) w.heap.size zq58 (.tmp 33) (.tmp 36) 29 3 (.int .i64 0) 8 rfl Try.underlying29 info3 rfl zq56 zq17 v213 y212 y215 _ _ _ (fun k_ => (w.heap.size ≤ k_)) (fun _ => False) rfl rfl ?aO ?aR (fun _ _ h => h) (fun _ h => h.elim) ?aF ?aB ?aS ?aL ?_
              (case aR => exact zq92)
              (case aB => exact zq3)
              (case aF => exact (fun k_ hk => (Nat.le_trans (below_size zq3) hk)))
              (case aO => exact (by (with_reducible repeat (first | apply Kd.R_alloc | apply Kd.R_drewN | apply Kd.R_drew)); exact Kd.R_mono HO214.out (fun _ hk => hk.1)))
              (case aS => exact zq113)
              (case aL => have := LMc9.out; omega)
              intro v221 w19 ho hb hg hat
              rw [← Ny220.out] at ho
              have n0_ := Aside0.mk (Kd.V_afterv (ok := (fun k_ => (P0_ k_ ∨ w.heap.size ≤ k_))) (zq2 HO_0.out) hg hat)
              have n1_ := Aside0.mk (Kd.V_afterv (ok := (fun k_ => (P0_ k_ ∨ w.heap.size ≤ k_))) (zq2 HO219.out) hg hat)
              have n2_ := Aside0.mk (Kd.V_afterv (ok := (fun k_ => (P0_ k_ ∨ w.heap.size ≤ k_))) (zq2 HO233.out) hg hat)
              have n3_ := Aside0.mk (hb)
              have n4_ := Aside0.mk (ho)
              clear HO_0
              clear HO219
              clear HO233
              clear HB
              clear HO214
              have HO_0 := n0_
              have HO219 := n1_
              have HO233 := n2_
              have HB := n3_
              have HO222 := n4_
              clear n0_ n1_ n2_ n3_ n4_
              clear ho hb hg hat
              refine hK.out _ _ trivial (fun hHeld => ?_)
              clear hK K
              refine norm_ (a' := ?_) ?_ ?_
              rotate_left
              ·show Act.put _ (some 37) _ = _
               simp only [Act.put, List.setIfInBounds_toArray, List.set_cons_zero, List.set_cons_succ, i64_w, i32_w]
               rfl
              refine one_ (i := 6) (N := some 39) #[true, true, true, true, true, true, true, false, true, true, true, false, false] rfl rfl (one_of HT_.out zq22) zq56 (fun K hK => ?_)
              refine Kd.R_lit_step (Kd.int .i64) _ 3 ?hg (N := 39) ?hd (xs := ([a1] : List Int)) (inner := [.int .i64 a1]) (ok := fun _ => True) (okp := fun _ => True) ?hr ?hp (fun _ hk => hk) trivial (Below.refl _ _) (Nat.le_refl _) zq63 ?_; (case hd => rfl); (case hg => rfl); (case hr => exact zq11); (case hp => exact zq85)
              intro v224 w20 ho21 hb hg_ hnew_
              clear hg_ hnew_
              (first | rw [← Ny223.out] at ho21 | (simp only [Int.reduceToNat] at ho21; rw [← Ny223.out] at ho21))
              have n0_ := Aside0.mk (Kd.V_elder' (zq2 HO_0.out) (Kd.R_base ho21) hb)
              have n1_ := Aside0.mk (Kd.V_elder' (zq2 HO219.out) (Kd.R_base ho21) hb)
              have n2_ := Aside0.mk (Kd.V_elder' (zq2 HO233.out) (Kd.R_base ho21) hb)
              have n3_ := Aside0.mk (Kd.R_elder' (zq1 HO222.out) (Kd.R_base ho21) hb)
              have n4_ := Aside0.mk (Kd.R_lower (Kd.R_new' (Kd.R_newM (M := fun k_ => (w.heap.size ≤ k_)) ho21 (below_size zq3) (fun k_ h_ => h_)) (Kd.R_lt (zq1 HO222.out))) (below_size zq3))
              have n5_ := Aside0.mk (below_step zq3 hb)
              clear HO_0
              clear HO219
              clear HO233
              clear HO222
              clear HB
              have HO_0 := n0_
              have HO219 := n1_
              have HO233 := n2_
              have HO222 := n3_
              have HO225 := n4_
              have HB := n5_
              clear n0_ n1_ n2_ n3_ n4_ n5_
              clear hb ho21
              refine hK.out _ _ trivial (fun hHeld => ?_)
              clear hK K
              refine norm_ (a' := ?_) ?_ ?_
              rotate_left
              ·show Act.put _ (some 39) _ = _
               simp only [Act.put, List.setIfInBounds_toArray, List.set_cons_zero, List.set_cons_succ, i64_w, i32_w]
               rfl
              exact norm_ zq84 (hCont (v213, v221, v224) _ ⟨(by (with_reducible repeat (first | apply Kd.V_alloc | apply Kd.V_drewN | apply Kd.V_drew)); exact Kd.V_mono HO219.out (fun _ hk => ⟨hk.1.1, ⟨hk.1.2, hk.2⟩⟩)), (zq1 HO222.out), zq106, (by (with_reducible repeat (first | apply Kd.V_alloc | apply Kd.V_drewN | apply Kd.V_drew)); exact Kd.V_mono HO233.out (fun _ hk => ⟨hk.1.1, ⟨hk.1.2, hk.2⟩⟩)), zq149, zq3⟩)
             ·skip
              refine Kd.R_lit_step (Kd.int .i64) _ 3 ?hg (N := 39) ?hd (xs := ([a1] : List Int)) (inner := [.int .i64 a1]) (ok := fun _ => True) (okp := fun _ => True) ?hr ?hp (fun _ hk => hk) trivial (Below.refl _ _) (Nat.le_refl _) zq63 ?_; (case hd => rfl); (case hg => rfl); (case hr => exact zq11); (case hp => exact zq85)
              intro v224 w19 ho20 hb hg_ hnew_
              clear hg_ hnew_
              (first | rw [← Ny223.out] at ho20 | (simp only [Int.reduceToNat] at ho20; rw [← Ny223.out] at ho20))
              have n0_ := Aside0.mk (Kd.V_elder' (zq2 HO_0.out) (Kd.R_base ho20) hb)
              have n1_ := Aside0.mk (Kd.V_elder' (zq2 HO219.out) (Kd.R_base ho20) hb)
              have n2_ := Aside0.mk (Kd.V_elder' (zq2 HO233.out) (Kd.R_base ho20) hb)
              have n3_ := Aside0.mk (Kd.R_elder' (zq1 HO214.out) (Kd.R_base ho20) hb)
              have n4_ := Aside0.mk (Kd.R_lower (Kd.R_new' (Kd.R_newM (M := fun k_ => (w.heap.size ≤ k_)) ho20 (below_size zq3) (fun k_ h_ => h_)) (Kd.R_lt (zq1 HO214.out))) (below_size zq3))
              have n5_ := Aside0.mk (below_step zq3 hb)
              clear HO_0
              clear HO219
              clear HO233
              clear HO214
              clear HB
              have HO_0 := n0_
              have HO219 := n1_
              have HO233 := n2_
              have HO214 := n3_
              have HO225 := n4_
              have HB := n5_
              clear n0_ n1_ n2_ n3_ n4_ n5_
              clear hb ho20
              refine hK.out _ _ trivial (fun hHeld => ?_)
              clear hK K
              refine norm_ (a' := ?_) ?_ ?_
              rotate_left
              ·show Act.put _ (some 39) _ = _
               simp only [Act.put, List.setIfInBounds_toArray, List.set_cons_zero, List.set_cons_succ, i64_w, i32_w]
               rfl
              refine one_ (i := 4) (N := some 37) #[true, true, true, true, true, true, true, false, true, true, true, false, false] rfl rfl (one_of HT_.out zq22) zq56 (fun K hK => ?_)
              refine Kd.R_append_rows_step (Kd.int .i64) (w0 := w) w.heap.size zq58 (.tmp 33) (.tmp 36) 29 3 (.int .i64 0) 8 rfl Try.underlying29 info3 rfl zq56 zq17 v213 y212 y215 _ _ _ (fun k_ => (w.heap.size ≤ k_) ∧ some k_ ≠ (v224 : Value).ownBlock) (fun _ => False) rfl rfl ?aO ?aR (fun _ _ h => h) (fun _ h => h.elim) ?aF ?aB ?aS ?aL ?_
              (case aR => exact zq92)
              (case aB => exact zq3)
              (case aF => exact zq102)
              (case aO => exact zq143)
              (case aS => exact zq113)
              (case aL => have := LMc9.out; omega)
              intro v221 w21 ho hb hg hat
              rw [← Ny220.out] at ho
              have n0_ := Aside0.mk (Kd.V_afterv (ok := (fun k_ => (P0_ k_ ∨ w.heap.size ≤ k_) ∧ some k_ ≠ (v224 : Value).ownBlock)) zq150 hg hat)
              have n1_ := Aside0.mk (Kd.V_afterv (ok := (fun k_ => (P0_ k_ ∨ w.heap.size ≤ k_) ∧ some k_ ≠ (v224 : Value).ownBlock)) (by (with_reducible repeat (first | apply Kd.V_alloc | apply Kd.V_drewN | apply Kd.V_drew)); exact Kd.V_mono HO219.out (fun _ hk => ⟨⟨hk.1.1, hk.2⟩, hk.1.2⟩)) hg hat)
              have n2_ := Aside0.mk (Kd.V_afterv (ok := (fun k_ => (P0_ k_ ∨ w.heap.size ≤ k_) ∧ some k_ ≠ (v224 : Value).ownBlock)) (by (with_reducible repeat (first | apply Kd.V_alloc | apply Kd.V_drewN | apply Kd.V_drew)); exact Kd.V_mono HO233.out (fun _ hk => ⟨⟨hk.1.1, hk.2⟩, hk.1.2⟩)) hg hat)
              have n3_ := Aside0.mk (Kd.R_after (ok := (fun k_ => (w.heap.size ≤ k_))) zq106 hg hat)
              have n4_ := Aside0.mk (hb)
              have n5_ := Aside0.mk (ho)
              clear HO_0
              clear HO219
              clear HO233
              clear HO225
              clear HB
              clear HO214
              have HO_0 := n0_
              have HO219 := n1_
              have HO233 := n2_
              have HO225 := n3_
              have HB := n4_
              have HO222 := n5_
              clear n0_ n1_ n2_ n3_ n4_ n5_
              clear ho hb hg hat
              refine hK.out _ _ trivial (fun hHeld => ?_)
              clear hK K
              refine norm_ (a' := ?_) ?_ ?_
              rotate_left
              ·show Act.put _ (some 37) _ = _
               simp only [Act.put, List.setIfInBounds_toArray, List.set_cons_zero, List.set_cons_succ, i64_w, i32_w]
               rfl
              exact norm_ zq84 (hCont (v213, v221, v224) _ ⟨zq145, (zq1 HO222.out), (zq1 HO225.out), zq146, zq78, zq3⟩)
            ·skip
             refine Kd.R_lit_step (Kd.int .i64) _ 3 ?hg (N := 39) ?hd (xs := ([a1] : List Int)) (inner := [.int .i64 a1]) (ok := fun _ => True) (okp := fun _ => True) ?hr ?hp (fun _ hk => hk) trivial (Below.refl _ _) (Nat.le_refl _) zq63 ?_; (case hd => rfl); (case hg => rfl); (case hr => exact zq11); (case hp => exact zq85)
             intro v224 w17 ho18 hb hg_ hnew_
             clear hg_ hnew_
             (first | rw [← Ny223.out] at ho18 | (simp only [Int.reduceToNat] at ho18; rw [← Ny223.out] at ho18))
             have n0_ := Aside0.mk (Kd.V_elder' (zq2 HO_0.out) (Kd.R_base ho18) hb)
             have n1_ := Aside0.mk (Kd.V_elder' (zq2 HO219.out) (Kd.R_base ho18) hb)
             have n2_ := Aside0.mk (Kd.V_elder' (zq2 HO233.out) (Kd.R_base ho18) hb)
             have n3_ := Aside0.mk (Kd.R_lower (Kd.R_newM (M := fun k_ => (w.heap.size ≤ k_)) ho18 (below_size zq3) (fun k_ h_ => h_)) (below_size zq3))
             have n4_ := Aside0.mk (below_step zq3 hb)
             clear HO_0
             clear HO219
             clear HO233
             clear HB
             have HO_0 := n0_
             have HO219 := n1_
             have HO233 := n2_
             have HO225 := n3_
             have HB := n4_
             clear n0_ n1_ n2_ n3_ n4_
             clear hb ho18
             refine hK.out _ _ trivial (fun hHeld => ?_)
             clear hK K
             refine norm_ (a' := ?_) ?_ ?_
             rotate_left
             ·show Act.put _ (some 39) _ = _
              simp only [Act.put, List.setIfInBounds_toArray, List.set_cons_zero, List.set_cons_succ, i64_w, i32_w]
              rfl
             refine one_ (i := 0) (N := some 33) #[true, true, true, true, false, true, true, false, true, true, true, false, false] rfl rfl (one_of HT_.out zq22) zq56 (fun K hK => ?_)
             refine Kd.R_lit_step (Kd.int .i64) _ 3 ?hg (N := 33) ?hd (xs := ([] : List Int)) (inner := []) (ok := fun _ => True) (okp := fun _ => True) ?hr ?hp (fun _ hk => hk) trivial (Below.refl _ _) (Nat.le_refl _) zq63 ?_; (case hd => rfl); (case hg => rfl); (case hr => exact zq11); (case hp => exact (Reps.none _ _))
             intro v213 w19 ho20 hb hg_ hnew_
             clear hg_ hnew_
             (first | rw [← Ny212.out] at ho20 | (simp only [Int.reduceToNat] at ho20; rw [← Ny212.out] at ho20))
             have n0_ := Aside0.mk (Kd.V_elder' (zq2 HO_0.out) (Kd.R_base ho20) hb)
             have n1_ := Aside0.mk (Kd.V_elder' (zq2 HO219.out) (Kd.R_base ho20) hb)
             have n2_ := Aside0.mk (Kd.V_elder' (zq2 HO233.out) (Kd.R_base ho20) hb)
             have n3_ := Aside0.mk (Kd.R_elder' (zq1 HO225.out) (Kd.R_base ho20) hb)
             have n4_ := Aside0.mk (Kd.R_lower (Kd.R_new' (Kd.R_newM (M := fun k_ => (w.heap.size ≤ k_)) ho20 (below_size zq3) (fun k_ h_ => h_)) (Kd.R_lt (zq1 HO225.out))) (below_size zq3))
             have n5_ := Aside0.mk (below_step zq3 hb)
             clear HO_0
             clear HO219
             clear HO233
             clear HO225
             clear HB
             have HO_0 := n0_
             have HO219 := n1_
             have HO233 := n2_
             have HO225 := n3_
             have HO214 := n4_
             have HB := n5_
             clear n0_ n1_ n2_ n3_ n4_ n5_
             clear hb ho20
             refine hK.out _ _ trivial (fun hHeld => ?_)
             clear hK K
             refine norm_ (a' := ?_) ?_ ?_
             rotate_left
             ·show Act.put _ (some 33) _ = _
              simp only [Act.put, List.setIfInBounds_toArray, List.set_cons_zero, List.set_cons_succ, i64_w, i32_w]
              rfl
             refine one_ (i := 4) (N := some 37) #[true, true, true, true, true, true, true, false, true, true, true, false, false] rfl rfl (one_of HT_.out zq22) zq56 (fun K hK => ?_)
             refine Kd.R_append_rows_step (Kd.int .i64) (w0 := w) w.heap.size zq58 (.tmp 33) (.tmp 36) 29 3 (.int .i64 0) 8 rfl Try.underlying29 info3 rfl zq56 zq17 v213 y212 y215 _ _ _ (fun k_ => (w.heap.size ≤ k_) ∧ some k_ ≠ (v224 : Value).ownBlock) (fun _ => False) rfl rfl ?aO ?aR (fun _ _ h => h) (fun _ h => h.elim) ?aF ?aB ?aS ?aL ?_
             (case aR => exact zq92)
             (case aB => exact zq3)
             (case aF => exact zq102)
             (case aO => exact zq143)
             (case aS => exact zq113)
             (case aL => have := LMc9.out; omega)
             intro v221 w21 ho hb hg hat
             rw [← Ny220.out] at ho
             have n0_ := Aside0.mk (Kd.V_afterv (ok := (fun k_ => (P0_ k_ ∨ w.heap.size ≤ k_) ∧ some k_ ≠ (v224 : Value).ownBlock)) (zq2 HO_0.out) hg hat)
             have n1_ := Aside0.mk (Kd.V_afterv (ok := (fun k_ => (P0_ k_ ∨ w.heap.size ≤ k_) ∧ some k_ ≠ (v224 : Value).ownBlock)) (zq2 HO219.out) hg hat)
             have n2_ := Aside0.mk (Kd.V_afterv (ok := (fun k_ => (P0_ k_ ∨ w.heap.size ≤ k_) ∧ some k_ ≠ (v224 : Value).ownBlock)) (zq2 HO233.out) hg hat)
             have n3_ := Aside0.mk (Kd.R_after (ok := (fun k_ => (w.heap.size ≤ k_))) zq106 hg hat)
             have n4_ := Aside0.mk (hb)
             have n5_ := Aside0.mk (ho)
             clear HO_0
             clear HO219
             clear HO233
             clear HO225
             clear HB
             clear HO214
             have HO_0 := n0_
             have HO219 := n1_
             have HO233 := n2_
             have HO225 := n3_
             have HB := n4_
             have HO222 := n5_
             clear n0_ n1_ n2_ n3_ n4_ n5_
             clear ho hb hg hat
             refine hK.out _ _ trivial (fun hHeld => ?_)
             clear hK K
             refine norm_ (a' := ?_) ?_ ?_
             rotate_left
             ·show Act.put _ (some 37) _ = _
              simp only [Act.put, List.setIfInBounds_toArray, List.set_cons_zero, List.set_cons_succ, i64_w, i32_w]
              rfl
             exact norm_ zq84 (hCont (v213, v221, v224) _ ⟨zq145, (zq1 HO222.out), (zq1 HO225.out), zq146, zq78, zq3⟩)
           rintro ⟨v213, v221, v224⟩ w22 ⟨h0_, h1_, h2_, h3_, h4_, h5_⟩
           have n0_ : Aside0 (Kd.V (Kd.int .i64) 3 w22 w.heap.size (fun k_ => (P0_ k_ ∨ w.heap.size ≤ k_) ∧ some k_ ≠ (v221 : Value).ownBlock ∧ some k_ ≠ (v224 : Value).ownBlock) (.slice (some ad210) y215.length c0) y215) := ⟨h0_⟩
           have n1_ : Aside0 (Kd.R (Kd.int .i64) 3 w22 w.heap.size (fun k_ => (w.heap.size ≤ k_) ∧ some k_ ≠ (v224 : Value).ownBlock) v221 y220) := ⟨h1_⟩
           have n2_ : Aside0 (Kd.R (Kd.int .i64) 3 w22 w.heap.size (fun k_ => (w.heap.size ≤ k_) ∧ some k_ ≠ (v221 : Value).ownBlock) v224 y223) := ⟨h2_⟩
           have n3_ : Aside0 (Kd.V (Kd.int .i64) 3 w22 w.heap.size (fun k_ => (P0_ k_ ∨ w.heap.size ≤ k_) ∧ some k_ ≠ (v221 : Value).ownBlock ∧ some k_ ≠ (v224 : Value).ownBlock) (.slice A16 y229.length c16) y229) := ⟨h3_⟩
           have n4_ : Aside0 (Kd.V (Kd.int .i64) 3 w22 w.heap.size (fun k_ => (P0_ k_ ∨ w.heap.size ≤ k_) ∧ some k_ ≠ (v221 : Value).ownBlock ∧ some k_ ≠ (v224 : Value).ownBlock) (.slice (some ad210) l0.length c0) l0) := ⟨h4_⟩
           have n5_ : Aside0 (Below w.heap.size w w22) := ⟨h5_⟩
           clear HO_0
           clear HB
           clear h0_ h1_ h2_ h3_ h4_ h5_
           have HO219 := n0_
           have HO222 := n1_
           have HO225 := n2_
           have HO233 := n3_
           have HO_0 := n4_
           have HB := n5_
           clear n0_ n1_ n2_ n3_ n4_ n5_
           have hHeld := trivial
           obtain ⟨Ao24, co24, eo24⟩ := Kd.R_slice HO225.out
           (first | subst eo24 | (injection eo24 with f1_ f2_ f3_; have f4_ := f1_.symm; have f5_ := f3_.symm; clear f1_ f2_ f3_; subst f4_; subst f5_))
           refine norm_ (a' := ?_) ?_ ?_
           rotate_left
           ·simp only [putAll, Act.put, List.setIfInBounds_toArray, List.set_cons_zero, List.set_cons_succ]
            rfl
           refine one_ (i := 7) (N := some 40) #[true, true, true, true, true, true, true, true, true, true, true, false, false] rfl rfl (one_of HT_.out zq22) zq56 (fun K hK => ?_)
           refine Kd.R_append_rows_step (Kd.int .i64) (w0 := w) w.heap.size zq58 (.tmp 37) (.tmp 39) 29 3 (.int .i64 0) 8 rfl Try.underlying29 info3 rfl zq56 zq17 v221 y220 y223 _ _ _ (fun k_ => (w.heap.size ≤ k_) ∧ some k_ ≠ (.slice Ao24 y223.length co24 : Value).ownBlock) (fun _ => False) rfl rfl ?aO ?aR (fun _ _ h => h) (fun _ h => h.elim) ?aF ?aB ?aS ?aL ?_
           (case aR => repeat (first | exact (Kd.R_reads' HO225.out).2.2 | (with_reducible refine Kd.C_alloc ?_ _) | (with_reducible refine Kd.C_drewN ?_ _) | (with_reducible refine Kd.C_drew ?_)))
           (case aB => exact zq3)
           (case aF => exact zq102)
           (case aO => exact (zq1 HO222.out))
           (case aS => exact zq113)
           (case aL => have := LMc10.out; omega)
           intro v227 w23 ho hb hg hat
           rw [← Ny226.out] at ho
           have n0_ := Aside0.mk (Kd.V_afterv (ok := (fun k_ => (P0_ k_ ∨ w.heap.size ≤ k_) ∧ some k_ ≠ (.slice Ao24 y223.length co24 : Value).ownBlock)) zq151 hg hat)
           have n1_ := Aside0.mk (Kd.V_afterv (ok := (fun k_ => (P0_ k_ ∨ w.heap.size ≤ k_) ∧ some k_ ≠ (.slice Ao24 y223.length co24 : Value).ownBlock)) (by (with_reducible repeat (first | apply Kd.V_alloc | apply Kd.V_drewN | apply Kd.V_drew)); exact Kd.V_mono HO219.out (fun _ hk => ⟨⟨hk.1, hk.2.2⟩, hk.2.1⟩)) hg hat)
           have n2_ := Aside0.mk (Kd.V_afterv (ok := (fun k_ => (P0_ k_ ∨ w.heap.size ≤ k_) ∧ some k_ ≠ (.slice Ao24 y223.length co24 : Value).ownBlock)) (by (with_reducible repeat (first | apply Kd.V_alloc | apply Kd.V_drewN | apply Kd.V_drew)); exact Kd.V_mono HO233.out (fun _ hk => ⟨⟨hk.1, hk.2.2⟩, hk.2.1⟩)) hg hat)
           have n3_ := Aside0.mk (Kd.R_after (ok := (fun k_ => (w.heap.size ≤ k_))) (zq1 HO225.out) hg hat)
           have n4_ := Aside0.mk (hb)
           have n5_ := Aside0.mk (ho)
           clear HO_0
           clear HO219
           clear HO233
           clear HO225
           clear HB
           clear HO222
           have HO_0 := n0_
           have HO219 := n1_
           have HO233 := n2_
           have HO225 := n3_
           have HB := n4_
           have HO228 := n5_
           clear n0_ n1_ n2_ n3_ n4_ n5_
           clear ho hb hg hat
           refine hK.out _ _ trivial (fun hHeld => ?_)
           clear hK K
           refine norm_ (a' := ?_) ?_ ?_
           rotate_left
           ·show Act.put _ (some 40) _ = _
            simp only [Act.put, List.setIfInBounds_toArray, List.set_cons_zero, List.set_cons_succ, i64_w, i32_w]
            rfl
           refine one_ (i := 11) (N := some 44) #[true, true, true, true, true, true, true, true, true, true, true, true, false] rfl rfl (one_of HT_.out zq22) zq56 (fun K hK => ?_)
           refine Kd.R_append_rows_step (Kd.int .i64) (w0 := w) w.heap.size zq58 (.tmp 40) (.tmp 43) 29 3 (.int .i64 0) 8 rfl Try.underlying29 info3 rfl zq56 zq17 v227 y226 y229 _ _ _ (fun k_ => (w.heap.size ≤ k_) ∧ some k_ ≠ (.slice Ao24 y223.length co24 : Value).ownBlock) (fun _ => False) rfl rfl ?aO ?aR (fun _ _ h => h) (fun _ h => h.elim) ?aF ?aB ?aS ?aL ?_
           (case aR => repeat (first | exact (Kd.V_reads' HO233.out).2.2 | (with_reducible refine Kd.C_alloc ?_ _) | (with_reducible refine Kd.C_drewN ?_ _) | (with_reducible refine Kd.C_drew ?_)))
           (case aB => exact zq3)
           (case aF => exact zq102)
           (case aO => exact (zq1 HO228.out))
           (case aS => exact zq113)
           (case aL => have := LMc13.out; omega)
           intro v235 w25 ho hb hg hat
           rw [← Ny234.out] at ho
           have n0_ := Aside0.mk (Kd.V_afterv (ok := (fun k_ => (P0_ k_ ∨ w.heap.size ≤ k_) ∧ some k_ ≠ (.slice Ao24 y223.length co24 : Value).ownBlock)) (zq2 HO_0.out) hg hat)
           have n1_ := Aside0.mk (Kd.V_afterv (ok := (fun k_ => (P0_ k_ ∨ w.heap.size ≤ k_) ∧ some k_ ≠ (.slice Ao24 y223.length co24 : Value).ownBlock)) (zq2 HO219.out) hg hat)
           have n2_ := Aside0.mk (Kd.V_afterv (ok := (fun k_ => (P0_ k_ ∨ w.heap.size ≤ k_) ∧ some k_ ≠ (.slice Ao24 y223.length co24 : Value).ownBlock)) (zq2 HO233.out) hg hat)
           have n3_ := Aside0.mk (Kd.R_after (ok := (fun k_ => (w.heap.size ≤ k_))) (zq1 HO225.out) hg hat)
           have n4_ := Aside0.mk (hb)
           have n5_ := Aside0.mk (ho)
           clear HO_0
           clear HO219
           clear HO233
           clear HO225
           clear HB
           clear HO228
           have HO_0 := n0_
           have HO219 := n1_
           have HO233 := n2_
           have HO225 := n3_
           have HB := n4_
           have HO236 := n5_
           clear n0_ n1_ n2_ n3_ n4_ n5_
           clear ho hb hg hat
           refine hK.out _ _ trivial (fun hHeld => ?_)
           clear hK K
           refine norm_ (a' := ?_) ?_ ?_
           rotate_left
           ·show Act.put _ (some 44) _ = _
            simp only [Act.put, List.setIfInBounds_toArray, List.set_cons_zero, List.set_cons_succ, i64_w, i32_w]
            rfl
           refine pure_ (i := 12) (N := some 4) (v := ?_) (a' := ?_) #[true, true, true, true, true, true, true, true, true, true, true, true, true] rfl rfl (any_of HT_.out zq22) (fun _ _ _ h => h) (Or.inl ⟨zq58, ?_⟩) ?_ ?_
           rotate_left
           exact zpw
           rotate_left
           exact zpa
           refine done_ (done_of HT_.out zq22) ?_
           try go_wp2
           go_ret
           exact ⟨_, zq9, Kd.V_mono (Kd.R_V (by (with_reducible repeat (first | apply Kd.R_alloc | apply Kd.R_drewN | apply Kd.R_drew)); exact Kd.R_mono HO236.out (fun _ hk => hk.1))) (fun k_ hk => by first | exact ⟨(.inr (hk.1)), hk.2⟩ | exact (.inr (hk))), zq3⟩
          ·rw [if_neg c13] at H
           exact absurd H zq63
         ·rw [if_neg c10] at H
          exact absurd H zq63
        ·rw [if_neg c9] at H
         exact absurd H zq63
       ·rw [if_neg c8] at H
        exact absurd H zq63
    ·rw [if_neg c4] at H
     exact absurd H zq63
   ·rw [if_neg c3] at H
    have c3b0 : decide (x5_1 < (l0.length : Int)) = false := decide_eq_false c3
    clear c3
    obtain ⟨y237, hy237⟩ : ∃ y_ : List Int, y_ = (([] : List Int)) := ⟨_, rfl⟩
    replace H : (if 0 ≤ x5_1 then (if x5_1 ≤ (l0.length : Int) then ((some (l0.take (x5_1 : Int).toNat : List Int)).bind fun y240 => (if y237.length + y240.length < 17592186044416 then ((some (y237 ++ y240 : List Int)).bind fun y245 => ((some (([a1] : List Int) : List Int)).bind fun y248 => (if y245.length + y248.length < 17592186044416 then ((some (y245 ++ y248 : List Int)).bind fun y251 => ((some (l0.drop (x5_1 : Int).toNat : List Int)).bind fun y254 => (if y251.length + y254.length < 17592186044416 then (some (y251 ++ y254)) else (none)))) else (none)))) else (none))) else (none)) else (none)) = some r := by first | (rw [hy237]; with_reducible exact H) | (have H2_ := (Option.bind_some _ _).symm.trans H; rw [hy237]; with_reducible exact H2_) | (have H2_ := (Option.bind_some _ _).symm.trans H; with_reducible exact H2_) | with_reducible exact H | (rw [hy237]; exact H) | exact H
    have Ny237 := Aside0.mk hy237
    clear hy237
    by_cases c26 : 0 ≤ x5_1
    ·rw [if_pos c26] at H
     have c26b0 := eq_true c26
     have c26b1 : decide (0 ≤ x5_1) = true := decide_eq_true c26
     clear c26
     by_cases c27 : x5_1 ≤ (l0.length : Int)
     ·rw [if_pos c27] at H
      have c27b0 := eq_true c27
      have c27b1 : decide (x5_1 ≤ (l0.length : Int)) = true := decide_eq_true c27
      clear c27
      obtain ⟨y240, hy240⟩ : ∃ y_ : List Int, y_ = (l0.take (x5_1 : Int).toNat) := ⟨_, rfl⟩
      replace H : (if y237.length + y240.length < 17592186044416 then ((some (y237 ++ y240 : List Int)).bind fun y245 => ((some (([a1] : List Int) : List Int)).bind fun y248 => (if y245.length + y248.length < 17592186044416 then ((some (y245 ++ y248 : List Int)).bind fun y251 => ((some (l0.drop (x5_1 : Int).toNat : List Int)).bind fun y254 => (if y251.length + y254.length < 17592186044416 then (some (y251 ++ y254)) else (none)))) else (none)))) else (none)) = some r := by first | (rw [hy240]; with_reducible exact H) | (have H2_ := (Option.bind_some _ _).symm.trans H; rw [hy240]; with_reducible exact H2_) | (have H2_ := (Option.bind_some _ _).symm.trans H; with_reducible exact H2_) | with_reducible exact H | (rw [hy240]; exact H) | exact H
      have Ny240 := Aside0.mk hy240
      clear hy240
      by_cases c28 : y237.length + y240.length < 17592186044416
      ·rw [if_pos c28] at H
       have LMc28 := Aside0.mk c28
       clear c28
       obtain ⟨y245, hy245⟩ : ∃ y_ : List Int, y_ = (y237 ++ y240) := ⟨_, rfl⟩
       replace H : ((some (([a1] : List Int) : List Int)).bind fun y248 => (if y245.length + y248.length < 17592186044416 then ((some (y245 ++ y248 : List Int)).bind fun y251 => ((some (l0.drop (x5_1 : Int).toNat : List Int)).bind fun y254 => (if y251.length + y254.length < 17592186044416 then (some (y251 ++ y254)) else (none)))) else (none))) = some r := by first | (rw [hy245]; with_reducible exact H) | (have H2_ := (Option.bind_some _ _).symm.trans H; rw [hy245]; with_reducible exact H2_) | (have H2_ := (Option.bind_some _ _).symm.trans H; with_reducible exact H2_) | with_reducible exact H | (rw [hy245]; exact H) | exact H
       have Ny245 := Aside0.mk hy245
       clear hy245
       obtain ⟨y248, hy248⟩ : ∃ y_ : List Int, y_ = (([a1] : List Int)) := ⟨_, rfl⟩
       replace H : (if y245.length + y248.length < 17592186044416 then ((some (y245 ++ y248 : List Int)).bind fun y251 => ((some (l0.drop (x5_1 : Int).toNat : List Int)).bind fun y254 => (if y251.length + y254.length < 17592186044416 then (some (y251 ++ y254)) else (none)))) else (none)) = some r := by first | (rw [hy248]; with_reducible exact H) | (have H2_ := (Option.bind_some _ _).symm.trans H; rw [hy248]; with_reducible exact H2_) | (have H2_ := (Option.bind_some _ _).symm.trans H; with_reducible exact H2_) | with_reducible exact H | (rw [hy248]; exact H) | exact H
       have Ny248 := Aside0.mk hy248
       clear hy248
       by_cases c29 : y245.length + y248.length < 17592186044416
       ·rw [if_pos c29] at H
        have LMc29 := Aside0.mk c29
        clear c29
        obtain ⟨y251, hy251⟩ : ∃ y_ : List Int, y_ = (y245 ++ y248) := ⟨_, rfl⟩
        replace H : ((some (l0.drop (x5_1 : Int).toNat : List Int)).bind fun y254 => (if y251.length + y254.length < 17592186044416 then (some (y251 ++ y254)) else (none))) = some r := by first | (rw [hy251]; with_reducible exact H) | (have H2_ := (Option.bind_some _ _).symm.trans H; rw [hy251]; with_reducible exact H2_) | (have H2_ := (Option.bind_some _ _).symm.trans H; with_reducible exact H2_) | with_reducible exact H | (rw [hy251]; exact H) | exact H
        have Ny251 := Aside0.mk hy251
        clear hy251
        have c30b0 := eq_true (of_decide_eq_true zq7 : 0 ≤ x5_1)
        have c31b0 := eq_true (of_decide_eq_true zq7 : x5_1 ≤ (l0.length : Int))
        obtain ⟨y254, hy254⟩ : ∃ y_ : List Int, y_ = (l0.drop (x5_1 : Int).toNat) := ⟨_, rfl⟩
        replace H : (if y251.length + y254.length < 17592186044416 then (some (y251 ++ y254)) else (none)) = some r := by first | (rw [hy254]; with_reducible exact H) | (have H2_ := (Option.bind_some _ _).symm.trans H; rw [hy254]; with_reducible exact H2_) | (have H2_ := (Option.bind_some _ _).symm.trans H; with_reducible exact H2_) | with_reducible exact H | (rw [hy254]; exact H) | exact H
        have Ny254 := Aside0.mk hy254
        clear hy254
        by_cases c32 : y251.length + y254.length < 17592186044416
        ·rw [if_pos c32] at H
         have LMc32 := Aside0.mk c32
         clear c32
         obtain ⟨y259, hy259⟩ : ∃ y_ : List Int, y_ = (y251 ++ y254) := ⟨_, rfl⟩
         replace H : (some y259) = some r := by first | (rw [hy259]; with_reducible exact H) | (have H2_ := (Option.bind_some _ _).symm.trans H; rw [hy259]; with_reducible exact H2_) | (have H2_ := (Option.bind_some _ _).symm.trans H; with_reducible exact H2_) | with_reducible exact H | (rw [hy259]; exact H) | exact H
         have Ny259 := Aside0.mk hy259
         clear hy259
         obtain rfl := Option.some.inj H
         try go_wp2
         have n0_ := Aside0.mk (Kd.V_drew HO_0.out)
         have n1_ := Aside0.mk (below_drew1 HB.out)
         clear HO_0
         clear HB
         have HO_0 := n0_
         have HB := n1_
         clear n0_ n1_
         have q34 : (x5_1 : Int) ≤ ((l0.length : Int) : Int) := of_decide_eq_true zq7
         obtain ⟨i034, hi034, _, hsz34, _⟩ := info_parts info3
         have hroom34 : l0.length ≤ c0 := (Kd.V_reads' HO_0.out).2.1
         have hC34 : Kd.F (Kd.int .i64) _ _ A0 l0.length l0 := (Kd.V_at (base := w.heap.size) HO_0.out).2.2
         have hcut34 := cut_to (P := Try.prog) 29 3 .i64 Try.underlying29 hi034 A0 l0.length c0 x5_1 (of_decide_eq_true zq7) q34 hroom34
         have hr34 := Kd.F_take (m := (x5_1 : Int).toNat) hC34 zq17
         have hy34 : y240.length = (x5_1 : Int).toNat := (by rw [Ny240.out, List.length_take]; omega)
         rw [← Ny240.out] at hr34
         rw [← hy34] at hcut34
         have HO244 := Aside0.mk (show Kd.V (Kd.int .i64) 3 _ w.heap.size _ (.slice A0 y240.length c0) y240 from Kd.V_mk zq17 hr34)
         have HC244 := Aside0.mk (show y240.length ≤ c0 from by omega)
         clear hr34 hC34 hroom34 hi034 hsz34
         have KY34 := Aside0.mk hy34
         clear hy34
         replace q34 := eq_true q34
         have q35 : (x5_1 : Int) ≤ ((l0.length : Int) : Int) := of_decide_eq_true zq7
         obtain ⟨i035, hi035, _, hsz35, _⟩ := info_parts info3
         have hroom35 : l0.length ≤ c0 := (Kd.V_reads' HO_0.out).2.1
         have hC35 : Kd.F (Kd.int .i64) _ _ A0 l0.length l0 := (Kd.V_at (base := w.heap.size) HO_0.out).2.2
         have q035 : (0 : Int) ≤ (x5_1 : Int) := of_decide_eq_true zq7
         have hcut35 := cut_from (P := Try.prog) 29 3 .i64 Try.underlying29 hi035 1 hsz35 A0 l0.length c0 x5_1 q035 q35
         have hr35 := Kd.F_cut (m := (x5_1 : Int).toNat) (c := c0) hC35 zq17 hroom35
         obtain ⟨A35, hA35⟩ : ∃ A1, A1 = (if c0 = (x5_1 : Int).toNat then A0 else (A0 : Option Addr).map (·.add ((x5_1 : Int).toNat * 1))) := ⟨_, rfl⟩
         obtain ⟨c35, hc35⟩ : ∃ c1, c1 = c0 - (x5_1 : Int).toNat := ⟨_, rfl⟩
         have hy35 : y254.length = l0.length - (x5_1 : Int).toNat := (by rw [Ny254.out, List.length_drop] <;> omega)
         rw [show (l0).drop (x5_1 : Int).toNat = y254 from Ny254.out.symm] at hr35
         replace hr35 : Kd.F (Kd.int .i64) _ _ A35 y254.length y254 := (by rw [hA35]; exact hr35)
         rw [← hy35, ← hA35, ← hc35] at hcut35
         have HO258 := Aside0.mk (show Kd.V (Kd.int .i64) 3 _ w.heap.size _ (.slice A35 y254.length c35) y254 from Kd.V_mk (by rw [hy35, hc35]; exact Nat.sub_le_sub_right hroom35 _) hr35)
         have HC258 := Aside0.mk (show y254.length ≤ c35 from by rw [hy35, hc35]; exact Nat.sub_le_sub_right hroom35 _)
         clear hr35 hC35 hroom35 hi035 hsz35 hc35
         have KY35 := Aside0.mk hy35
         have KA35 := Aside0.mk hA35
         clear hy35 hA35
         replace q35 := eq_true q35
         refine start_ (n := 13) (S := fun w' => True) (ds := []) #[false, false, false, false, false, false, false, false, false, false, false, false, false] zq22 rfl rfl trivial (fun hHeld => ?_); refine with_tabW culletref07_put.tab6 culletref07_put.bits6 (fun HT_ HW_ => ?_)
         generalize wr.drew = w33 at HO_0 HB HO244 HO258 hHeld ⊢
         refine pure_ (i := 1) (N := some 34) (v := ?_) (a' := ?_) #[false, true, false, false, false, false, false, false, false, false, false, false, false] rfl rfl (any_of HT_.out zq22) (fun _ _ _ h => h) (Or.inl ⟨zq58, ?_⟩) ?_ ?_
         rotate_left
         exact zpw
         rotate_left
         exact zpa
         refine pure_ (i := 2) (N := some 35) (v := ?_) (a' := ?_) #[false, true, true, false, false, false, false, false, false, false, false, false, false] rfl rfl (any_of HT_.out zq22) (fun _ _ _ h => h) (Or.inl ⟨zq58, ?_⟩) ?_ ?_
         rotate_left
         exact zpw
         rotate_left
         exact zpa
         refine pure_ (i := 3) (N := some 36) (v := ?_) (a' := ?_) #[false, true, true, true, false, false, false, false, false, false, false, false, false] rfl rfl (any_of HT_.out zq22) (fun _ _ _ h => h) (Or.inl ⟨zq58, ?_⟩) ?_ ?_
         rotate_left
         exact zpw
         rotate_left
         exact zpa
         refine pure_ (i := 5) (N := some 38) (v := ?_) (a' := ?_) #[false, true, true, true, false, true, false, false, false, false, false, false, false] rfl rfl (any_of HT_.out zq22) (fun _ _ _ h => h) (Or.inl ⟨zq58, ?_⟩) ?_ ?_
         rotate_left
         exact zpw
         rotate_left
         exact zpa
         refine pure_ (i := 8) (N := some 41) (v := ?_) (a' := ?_) #[false, true, true, true, false, true, false, false, true, false, false, false, false] rfl rfl (any_of HT_.out zq22) (fun _ _ _ h => h) (Or.inl ⟨zq58, ?_⟩) ?_ ?_
         rotate_left
         exact zpw
         rotate_left
         exact zpa
         refine pure_ (i := 9) (N := some 42) (v := ?_) (a' := ?_) #[false, true, true, true, false, true, false, false, true, true, false, false, false] rfl rfl (any_of HT_.out zq22) (fun _ _ _ h => h) (Or.inl ⟨zq58, ?_⟩) ?_ ?_
         rotate_left
         exact zpw
         rotate_left
         exact zpa
         refine pure_ (i := 10) (N := some 43) (v := ?_) (a' := ?_) #[false, true, true, true, false, true, false, false, true, true, true, false, false] rfl rfl (any_of HT_.out zq22) (fun _ _ _ h => h) (Or.inl ⟨zq58, ?_⟩) ?_ ?_
         rotate_left
         exact zpw
         rotate_left
         exact zpa
         refine join_ (σ := Value × Value × Value) 3 #[true, true, true, true, true, true, true, false, true, true, true, false, false] (fun s_ => [(33, s_.1), (37, s_.2.1), (39, s_.2.2)]) (fun s_ w' => (Kd.V (Kd.int .i64) 3 w' w.heap.size (fun k_ => (P0_ k_ ∨ w.heap.size ≤ k_) ∧ some k_ ≠ (s_.2.1 : Value).ownBlock ∧ some k_ ≠ (s_.2.2 : Value).ownBlock) (.slice A0 y240.length c0) y240) ∧ (Kd.R (Kd.int .i64) 3 w' w.heap.size (fun k_ => (w.heap.size ≤ k_) ∧ some k_ ≠ (s_.2.2 : Value).ownBlock) s_.2.1 y245) ∧ (Kd.R (Kd.int .i64) 3 w' w.heap.size (fun k_ => (w.heap.size ≤ k_) ∧ some k_ ≠ (s_.2.1 : Value).ownBlock) s_.2.2 y248) ∧ (Kd.V (Kd.int .i64) 3 w' w.heap.size (fun k_ => (P0_ k_ ∨ w.heap.size ≤ k_) ∧ some k_ ≠ (s_.2.1 : Value).ownBlock ∧ some k_ ≠ (s_.2.2 : Value).ownBlock) (.slice A35 y254.length c35) y254) ∧ (Kd.V (Kd.int .i64) 3 w' w.heap.size (fun k_ => (P0_ k_ ∨ w.heap.size ≤ k_) ∧ some k_ ≠ (s_.2.1 : Value).ownBlock ∧ some k_ ≠ (s_.2.2 : Value).ownBlock) (.slice A0 l0.length c0) l0) ∧ (Below w.heap.size w w')) ?_ ?_
         rotate_left
         ·intro hCont
          refine two_ (i := 0) (j := 6) (Ni := some 33) (Nj := some 39) #[true, true, true, true, false, true, false, false, true, true, true, false, false] #[false, true, true, true, false, true, true, false, true, true, true, false, false] rfl rfl rfl rfl (two_of HT_.out zq22) zq56 zq56 (fun K hK => ?_) (fun K hK => ?_)
          ·skip
           refine Kd.R_lit_step (Kd.int .i64) _ 3 ?hg (N := 33) ?hd (xs := ([] : List Int)) (inner := []) (ok := fun _ => True) (okp := fun _ => True) ?hr ?hp (fun _ hk => hk) trivial (Below.refl _ _) (Nat.le_refl _) zq63 ?_; (case hd => rfl); (case hg => rfl); (case hr => exact zq11); (case hp => exact (Reps.none _ _))
           intro v238 w36 ho37 hb hg_ hnew_
           clear hg_ hnew_
           (first | rw [← Ny237.out] at ho37 | (simp only [Int.reduceToNat] at ho37; rw [← Ny237.out] at ho37))
           have n0_ := Aside0.mk (Kd.V_elder' (zq2 HO_0.out) (Kd.R_base ho37) hb)
           have n1_ := Aside0.mk (Kd.V_elder' (zq2 HO244.out) (Kd.R_base ho37) hb)
           have n2_ := Aside0.mk (Kd.V_elder' (zq2 HO258.out) (Kd.R_base ho37) hb)
           have n3_ := Aside0.mk (Kd.R_lower (Kd.R_newM (M := fun k_ => (w.heap.size ≤ k_)) ho37 (below_size zq3) (fun k_ h_ => h_)) (below_size zq3))
           have n4_ := Aside0.mk (below_step zq3 hb)
           clear HO_0
           clear HO244
           clear HO258
           clear HB
           have HO_0 := n0_
           have HO244 := n1_
           have HO258 := n2_
           have HO239 := n3_
           have HB := n4_
           clear n0_ n1_ n2_ n3_ n4_
           clear hb ho37
           refine hK.out _ _ trivial (fun hHeld => ?_)
           clear hK K
           refine norm_ (a' := ?_) ?_ ?_
           rotate_left
           ·show Act.put _ (some 33) _ = _
            simp only [Act.put, List.setIfInBounds_toArray, List.set_cons_zero, List.set_cons_succ, i64_w, i32_w]
            rfl
           refine two_ (i := 4) (j := 6) (Ni := some 37) (Nj := some 39) #[true, true, true, true, true, true, false, false, true, true, true, false, false] #[true, true, true, true, false, true, true, false, true, true, true, false, false] rfl rfl rfl rfl (two_of HT_.out zq22) zq56 zq56 (fun K hK => ?_) (fun K hK => ?_)
           ·skip
            refine Kd.R_append_rows_step (Kd.int .i64) (w0 := w) w.heap.size zq58 (.tmp 33) (.tmp 36) 29 3 (.int .i64 0) 8 rfl Try.underlying29 info3 rfl zq56 zq17 v238 y237 y240 _ _ _ (fun k_ => (w.heap.size ≤ k_)) (fun _ => False) rfl rfl ?aO ?aR (fun _ _ h => h) (fun _ h => h.elim) ?aF ?aB ?aS ?aL ?_
            (case aR => exact zq93)
            (case aB => exact zq3)
            (case aF => exact (fun k_ hk => (Nat.le_trans (below_size zq3) hk)))
            (case aO => exact (by (with_reducible repeat (first | apply Kd.R_alloc | apply Kd.R_drewN | apply Kd.R_drew)); exact Kd.R_mono HO239.out (fun _ hk => hk.1)))
            (case aS => exact zq113)
            (case aL => have := LMc28.out; omega)
            intro v246 w38 ho hb hg hat
            rw [← Ny245.out] at ho
            have n0_ := Aside0.mk (Kd.V_afterv (ok := (fun k_ => (P0_ k_ ∨ w.heap.size ≤ k_))) (zq2 HO_0.out) hg hat)
            have n1_ := Aside0.mk (Kd.V_afterv (ok := (fun k_ => (P0_ k_ ∨ w.heap.size ≤ k_))) (zq2 HO244.out) hg hat)
            have n2_ := Aside0.mk (Kd.V_afterv (ok := (fun k_ => (P0_ k_ ∨ w.heap.size ≤ k_))) (zq2 HO258.out) hg hat)
            have n3_ := Aside0.mk (hb)
            have n4_ := Aside0.mk (ho)
            clear HO_0
            clear HO244
            clear HO258
            clear HB
            clear HO239
            have HO_0 := n0_
            have HO244 := n1_
            have HO258 := n2_
            have HB := n3_
            have HO247 := n4_
            clear n0_ n1_ n2_ n3_ n4_
            clear ho hb hg hat
            refine hK.out _ _ trivial (fun hHeld => ?_)
            clear hK K
            refine norm_ (a' := ?_) ?_ ?_
            rotate_left
            ·show Act.put _ (some 37) _ = _
             simp only [Act.put, List.setIfInBounds_toArray, List.set_cons_zero, List.set_cons_succ, i64_w, i32_w]
             rfl
            refine one_ (i := 6) (N := some 39) #[true, true, true, true, true, true, true, false, true, true, true, false, false] rfl rfl (one_of HT_.out zq22) zq56 (fun K hK => ?_)
            refine Kd.R_lit_step (Kd.int .i64) _ 3 ?hg (N := 39) ?hd (xs := ([a1] : List Int)) (inner := [.int .i64 a1]) (ok := fun _ => True) (okp := fun _ => True) ?hr ?hp (fun _ hk => hk) trivial (Below.refl _ _) (Nat.le_refl _) zq63 ?_; (case hd => rfl); (case hg => rfl); (case hr => exact zq11); (case hp => exact zq85)
            intro v249 w39 ho40 hb hg_ hnew_
            clear hg_ hnew_
            (first | rw [← Ny248.out] at ho40 | (simp only [Int.reduceToNat] at ho40; rw [← Ny248.out] at ho40))
            have n0_ := Aside0.mk (Kd.V_elder' (zq2 HO_0.out) (Kd.R_base ho40) hb)
            have n1_ := Aside0.mk (Kd.V_elder' (zq2 HO244.out) (Kd.R_base ho40) hb)
            have n2_ := Aside0.mk (Kd.V_elder' (zq2 HO258.out) (Kd.R_base ho40) hb)
            have n3_ := Aside0.mk (Kd.R_elder' (zq1 HO247.out) (Kd.R_base ho40) hb)
            have n4_ := Aside0.mk (Kd.R_lower (Kd.R_new' (Kd.R_newM (M := fun k_ => (w.heap.size ≤ k_)) ho40 (below_size zq3) (fun k_ h_ => h_)) (Kd.R_lt (zq1 HO247.out))) (below_size zq3))
            have n5_ := Aside0.mk (below_step zq3 hb)
            clear HO_0
            clear HO244
            clear HO258
            clear HO247
            clear HB
            have HO_0 := n0_
            have HO244 := n1_
            have HO258 := n2_
            have HO247 := n3_
            have HO250 := n4_
            have HB := n5_
            clear n0_ n1_ n2_ n3_ n4_ n5_
            clear hb ho40
            refine hK.out _ _ trivial (fun hHeld => ?_)
            clear hK K
            refine norm_ (a' := ?_) ?_ ?_
            rotate_left
            ·show Act.put _ (some 39) _ = _
             simp only [Act.put, List.setIfInBounds_toArray, List.set_cons_zero, List.set_cons_succ, i64_w, i32_w]
             rfl
            exact norm_ zq84 (hCont (v238, v246, v249) _ ⟨(by (with_reducible repeat (first | apply Kd.V_alloc | apply Kd.V_drewN | apply Kd.V_drew)); exact Kd.V_mono HO244.out (fun _ hk => ⟨hk.1.1, ⟨hk.1.2, hk.2⟩⟩)), (zq1 HO247.out), zq107, (by (with_reducible repeat (first | apply Kd.V_alloc | apply Kd.V_drewN | apply Kd.V_drew)); exact Kd.V_mono HO258.out (fun _ hk => ⟨hk.1.1, ⟨hk.1.2, hk.2⟩⟩)), zq149, zq3⟩)
           ·skip
            refine Kd.R_lit_step (Kd.int .i64) _ 3 ?hg (N := 39) ?hd (xs := ([a1] : List Int)) (inner := [.int .i64 a1]) (ok := fun _ => True) (okp := fun _ => True) ?hr ?hp (fun _ hk => hk) trivial (Below.refl _ _) (Nat.le_refl _) zq63 ?_; (case hd => rfl); (case hg => rfl); (case hr => exact zq11); (case hp => exact zq85)
            intro v249 w38 ho39 hb hg_ hnew_
            clear hg_ hnew_
            (first | rw [← Ny248.out] at ho39 | (simp only [Int.reduceToNat] at ho39; rw [← Ny248.out] at ho39))
            have n0_ := Aside0.mk (Kd.V_elder' (zq2 HO_0.out) (Kd.R_base ho39) hb)
            have n1_ := Aside0.mk (Kd.V_elder' (zq2 HO244.out) (Kd.R_base ho39) hb)
            have n2_ := Aside0.mk (Kd.V_elder' (zq2 HO258.out) (Kd.R_base ho39) hb)
            have n3_ := Aside0.mk (Kd.R_elder' (zq1 HO239.out) (Kd.R_base ho39) hb)
            have n4_ := Aside0.mk (Kd.R_lower (Kd.R_new' (Kd.R_newM (M := fun k_ => (w.heap.size ≤ k_)) ho39 (below_size zq3) (fun k_ h_ => h_)) (Kd.R_lt (zq1 HO239.out))) (below_size zq3))
            have n5_ := Aside0.mk (below_step zq3 hb)
            clear HO_0
            clear HO244
            clear HO258
            clear HO239
            clear HB
            have HO_0 := n0_
            have HO244 := n1_
            have HO258 := n2_
            have HO239 := n3_
            have HO250 := n4_
            have HB := n5_
            clear n0_ n1_ n2_ n3_ n4_ n5_
            clear hb ho39
            refine hK.out _ _ trivial (fun hHeld => ?_)
            clear hK K
            refine norm_ (a' := ?_) ?_ ?_
            rotate_left
            ·show Act.put _ (some 39) _ = _
             simp only [Act.put, List.setIfInBounds_toArray, List.set_cons_zero, List.set_cons_succ, i64_w, i32_w]
             rfl
            refine one_ (i := 4) (N := some 37) #[true, true, true, true, true, true, true, false, true, true, true, false, false] rfl rfl (one_of HT_.out zq22) zq56 (fun K hK => ?_)
            refine Kd.R_append_rows_step (Kd.int .i64) (w0 := w) w.heap.size zq58 (.tmp 33) (.tmp 36) 29 3 (.int .i64 0) 8 rfl Try.underlying29 info3 rfl zq56 zq17 v238 y237 y240 _ _ _ (fun k_ => (w.heap.size ≤ k_) ∧ some k_ ≠ (v249 : Value).ownBlock) (fun _ => False) rfl rfl ?aO ?aR (fun _ _ h => h) (fun _ h => h.elim) ?aF ?aB ?aS ?aL ?_
            (case aR => exact zq93)
            (case aB => exact zq3)
            (case aF => exact zq103)
            (case aO => exact zq144)
            (case aS => exact zq113)
            (case aL => have := LMc28.out; omega)
            intro v246 w40 ho hb hg hat
            rw [← Ny245.out] at ho
            have n0_ := Aside0.mk (Kd.V_afterv (ok := (fun k_ => (P0_ k_ ∨ w.heap.size ≤ k_) ∧ some k_ ≠ (v249 : Value).ownBlock)) zq150 hg hat)
            have n1_ := Aside0.mk (Kd.V_afterv (ok := (fun k_ => (P0_ k_ ∨ w.heap.size ≤ k_) ∧ some k_ ≠ (v249 : Value).ownBlock)) (by (with_reducible repeat (first | apply Kd.V_alloc | apply Kd.V_drewN | apply Kd.V_drew)); exact Kd.V_mono HO244.out (fun _ hk => ⟨⟨hk.1.1, hk.2⟩, hk.1.2⟩)) hg hat)
            have n2_ := Aside0.mk (Kd.V_afterv (ok := (fun k_ => (P0_ k_ ∨ w.heap.size ≤ k_) ∧ some k_ ≠ (v249 : Value).ownBlock)) (by (with_reducible repeat (first | apply Kd.V_alloc | apply Kd.V_drewN | apply Kd.V_drew)); exact Kd.V_mono HO258.out (fun _ hk => ⟨⟨hk.1.1, hk.2⟩, hk.1.2⟩)) hg hat)
            have n3_ := Aside0.mk (Kd.R_after (ok := (fun k_ => (w.heap.size ≤ k_))) zq107 hg hat)
            have n4_ := Aside0.mk (hb)
            have n5_ := Aside0.mk (ho)
            clear HO_0
            clear HO244
            clear HO258
            clear HO250
            clear HB
            clear HO239
            have HO_0 := n0_
            have HO244 := n1_
            have HO258 := n2_
            have HO250 := n3_
            have HB := n4_
            have HO247 := n5_
            clear n0_ n1_ n2_ n3_ n4_ n5_
            clear ho hb hg hat
            refine hK.out _ _ trivial (fun hHeld => ?_)
            clear hK K
            refine norm_ (a' := ?_) ?_ ?_
            rotate_left
            ·show Act.put _ (some 37) _ = _
             simp only [Act.put, List.setIfInBounds_toArray, List.set_cons_zero, List.set_cons_succ, i64_w, i32_w]
             rfl
            exact norm_ zq84 (hCont (v238, v246, v249) _ ⟨zq147, (zq1 HO247.out), (zq1 HO250.out), zq148, zq78, zq3⟩)
          ·skip
           refine Kd.R_lit_step (Kd.int .i64) _ 3 ?hg (N := 39) ?hd (xs := ([a1] : List Int)) (inner := [.int .i64 a1]) (ok := fun _ => True) (okp := fun _ => True) ?hr ?hp (fun _ hk => hk) trivial (Below.refl _ _) (Nat.le_refl _) zq63 ?_; (case hd => rfl); (case hg => rfl); (case hr => exact zq11); (case hp => exact zq85)
           intro v249 w36 ho37 hb hg_ hnew_
           clear hg_ hnew_
           (first | rw [← Ny248.out] at ho37 | (simp only [Int.reduceToNat] at ho37; rw [← Ny248.out] at ho37))
           have n0_ := Aside0.mk (Kd.V_elder' (zq2 HO_0.out) (Kd.R_base ho37) hb)
           have n1_ := Aside0.mk (Kd.V_elder' (zq2 HO244.out) (Kd.R_base ho37) hb)
           have n2_ := Aside0.mk (Kd.V_elder' (zq2 HO258.out) (Kd.R_base ho37) hb)
           have n3_ := Aside0.mk (Kd.R_lower (Kd.R_newM (M := fun k_ => (w.heap.size ≤ k_)) ho37 (below_size zq3) (fun k_ h_ => h_)) (below_size zq3))
           have n4_ := Aside0.mk (below_step zq3 hb)
           clear HO_0
           clear HO244
           clear HO258
           clear HB
           have HO_0 := n0_
           have HO244 := n1_
           have HO258 := n2_
           have HO250 := n3_
           have HB := n4_
           clear n0_ n1_ n2_ n3_ n4_
           clear hb ho37
           refine hK.out _ _ trivial (fun hHeld => ?_)
           clear hK K
           refine norm_ (a' := ?_) ?_ ?_
           rotate_left
           ·show Act.put _ (some 39) _ = _
            simp only [Act.put, List.setIfInBounds_toArray, List.set_cons_zero, List.set_cons_succ, i64_w, i32_w]
            rfl
           refine one_ (i := 0) (N := some 33) #[true, true, true, true, false, true, true, false, true, true, true, false, false] rfl rfl (one_of HT_.out zq22) zq56 (fun K hK => ?_)
           refine Kd.R_lit_step (Kd.int .i64) _ 3 ?hg (N := 33) ?hd (xs := ([] : List Int)) (inner := []) (ok := fun _ => True) (okp := fun _ => True) ?hr ?hp (fun _ hk => hk) trivial (Below.refl _ _) (Nat.le_refl _) zq63 ?_; (case hd => rfl); (case hg => rfl); (case hr => exact zq11); (case hp => exact (Reps.none _ _))
           intro v238 w38 ho39 hb hg_ hnew_
           clear hg_ hnew_
           (first | rw [← Ny237.out] at ho39 | (simp only [Int.reduceToNat] at ho39; rw [← Ny237.out] at ho39))
           have n0_ := Aside0.mk (Kd.V_elder' (zq2 HO_0.out) (Kd.R_base ho39) hb)
           have n1_ := Aside0.mk (Kd.V_elder' (zq2 HO244.out) (Kd.R_base ho39) hb)
           have n2_ := Aside0.mk (Kd.V_elder' (zq2 HO258.out) (Kd.R_base ho39) hb)
           have n3_ := Aside0.mk (Kd.R_elder' (zq1 HO250.out) (Kd.R_base ho39) hb)
           have n4_ := Aside0.mk (Kd.R_lower (Kd.R_new' (Kd.R_newM (M := fun k_ => (w.heap.size ≤ k_)) ho39 (below_size zq3) (fun k_ h_ => h_)) (Kd.R_lt (zq1 HO250.out))) (below_size zq3))
           have n5_ := Aside0.mk (below_step zq3 hb)
           clear HO_0
           clear HO244
           clear HO258
           clear HO250
           clear HB
           have HO_0 := n0_
           have HO244 := n1_
           have HO258 := n2_
           have HO250 := n3_
           have HO239 := n4_
           have HB := n5_
           clear n0_ n1_ n2_ n3_ n4_ n5_
           clear hb ho39
           refine hK.out _ _ trivial (fun hHeld => ?_)
           clear hK K
           refine norm_ (a' := ?_) ?_ ?_
           rotate_left
           ·show Act.put _ (some 33) _ = _
            simp only [Act.put, List.setIfInBounds_toArray, List.set_cons_zero, List.set_cons_succ, i64_w, i32_w]
            rfl
           refine one_ (i := 4) (N := some 37) #[true, true, true, true, true, true, true, false, true, true, true, false, false] rfl rfl (one_of HT_.out zq22) zq56 (fun K hK => ?_)
           refine Kd.R_append_rows_step (Kd.int .i64) (w0 := w) w.heap.size zq58 (.tmp 33) (.tmp 36) 29 3 (.int .i64 0) 8 rfl Try.underlying29 info3 rfl zq56 zq17 v238 y237 y240 _ _ _ (fun k_ => (w.heap.size ≤ k_) ∧ some k_ ≠ (v249 : Value).ownBlock) (fun _ => False) rfl rfl ?aO ?aR (fun _ _ h => h) (fun _ h => h.elim) ?aF ?aB ?aS ?aL ?_
           (case aR => exact zq93)
           (case aB => exact zq3)
           (case aF => exact zq103)
           (case aO => exact zq144)
           (case aS => exact zq113)
           (case aL => have := LMc28.out; omega)
           intro v246 w40 ho hb hg hat
           rw [← Ny245.out] at ho
           have n0_ := Aside0.mk (Kd.V_afterv (ok := (fun k_ => (P0_ k_ ∨ w.heap.size ≤ k_) ∧ some k_ ≠ (v249 : Value).ownBlock)) (zq2 HO_0.out) hg hat)
           have n1_ := Aside0.mk (Kd.V_afterv (ok := (fun k_ => (P0_ k_ ∨ w.heap.size ≤ k_) ∧ some k_ ≠ (v249 : Value).ownBlock)) (zq2 HO244.out) hg hat)
           have n2_ := Aside0.mk (Kd.V_afterv (ok := (fun k_ => (P0_ k_ ∨ w.heap.size ≤ k_) ∧ some k_ ≠ (v249 : Value).ownBlock)) (zq2 HO258.out) hg hat)
           have n3_ := Aside0.mk (Kd.R_after (ok := (fun k_ => (w.heap.size ≤ k_))) zq107 hg hat)
           have n4_ := Aside0.mk (hb)
           have n5_ := Aside0.mk (ho)
           clear HO_0
           clear HO244
           clear HO258
           clear HO250
           clear HB
           clear HO239
           have HO_0 := n0_
           have HO244 := n1_
           have HO258 := n2_
           have HO250 := n3_
           have HB := n4_
           have HO247 := n5_
           clear n0_ n1_ n2_ n3_ n4_ n5_
           clear ho hb hg hat
           refine hK.out _ _ trivial (fun hHeld => ?_)
           clear hK K
           refine norm_ (a' := ?_) ?_ ?_
           rotate_left
           ·show Act.put _ (some 37) _ = _
            simp only [Act.put, List.setIfInBounds_toArray, List.set_cons_zero, List.set_cons_succ, i64_w, i32_w]
            rfl
           exact norm_ zq84 (hCont (v238, v246, v249) _ ⟨zq147, (zq1 HO247.out), (zq1 HO250.out), zq148, zq78, zq3⟩)
         rintro ⟨v238, v246, v249⟩ w41 ⟨h0_, h1_, h2_, h3_, h4_, h5_⟩
         have n0_ : Aside0 (Kd.V (Kd.int .i64) 3 w41 w.heap.size (fun k_ => (P0_ k_ ∨ w.heap.size ≤ k_) ∧ some k_ ≠ (v246 : Value).ownBlock ∧ some k_ ≠ (v249 : Value).ownBlock) (.slice A0 y240.length c0) y240) := ⟨h0_⟩
         have n1_ : Aside0 (Kd.R (Kd.int .i64) 3 w41 w.heap.size (fun k_ => (w.heap.size ≤ k_) ∧ some k_ ≠ (v249 : Value).ownBlock) v246 y245) := ⟨h1_⟩
         have n2_ : Aside0 (Kd.R (Kd.int .i64) 3 w41 w.heap.size (fun k_ => (w.heap.size ≤ k_) ∧ some k_ ≠ (v246 : Value).ownBlock) v249 y248) := ⟨h2_⟩
         have n3_ : Aside0 (Kd.V (Kd.int .i64) 3 w41 w.heap.size (fun k_ => (P0_ k_ ∨ w.heap.size ≤ k_) ∧ some k_ ≠ (v246 : Value).ownBlock ∧ some k_ ≠ (v249 : Value).ownBlock) (.slice A35 y254.length c35) y254) := ⟨h3_⟩
         have n4_ : Aside0 (Kd.V (Kd.int .i64) 3 w41 w.heap.size (fun k_ => (P0_ k_ ∨ w.heap.size ≤ k_) ∧ some k_ ≠ (v246 : Value).ownBlock ∧ some k_ ≠ (v249 : Value).ownBlock) (.slice A0 l0.length c0) l0) := ⟨h4_⟩
         have n5_ : Aside0 (Below w.heap.size w w41) := ⟨h5_⟩
         clear HO_0
         clear HB
         clear h0_ h1_ h2_ h3_ h4_ h5_
         have HO244 := n0_
         have HO247 := n1_
         have HO250 := n2_
         have HO258 := n3_
         have HO_0 := n4_
         have HB := n5_
         clear n0_ n1_ n2_ n3_ n4_ n5_
         have hHeld := trivial
         obtain ⟨Ao43, co43, eo43⟩ := Kd.R_slice HO250.out
         (first | subst eo43 | (injection eo43 with f1_ f2_ f3_; have f4_ := f1_.symm; have f5_ := f3_.symm; clear f1_ f2_ f3_; subst f4_; subst f5_))
         refine norm_ (a' := ?_) ?_ ?_
         rotate_left
         ·simp only [putAll, Act.put, List.setIfInBounds_toArray, List.set_cons_zero, List.set_cons_succ]
          rfl
         refine one_ (i := 7) (N := some 40) #[true, true, true, true, true, true, true, true, true, true, true, false, false] rfl rfl (one_of HT_.out zq22) zq56 (fun K hK => ?_)
         refine Kd.R_append_rows_step (Kd.int .i64) (w0 := w) w.heap.size zq58 (.tmp 37) (.tmp 39) 29 3 (.int .i64 0) 8 rfl Try.underlying29 info3 rfl zq56 zq17 v246 y245 y248 _ _ _ (fun k_ => (w.heap.size ≤ k_) ∧ some k_ ≠ (.slice Ao43 y248.length co43 : Value).ownBlock) (fun _ => False) rfl rfl ?aO ?aR (fun _ _ h => h) (fun _ h => h.elim) ?aF ?aB ?aS ?aL ?_
         (case aR => repeat (first | exact (Kd.R_reads' HO250.out).2.2 | (with_reducible refine Kd.C_alloc ?_ _) | (with_reducible refine Kd.C_drewN ?_ _) | (with_reducible refine Kd.C_drew ?_)))
         (case aB => exact zq3)
         (case aF => exact zq103)
         (case aO => exact (zq1 HO247.out))
         (case aS => exact zq113)
         (case aL => have := LMc29.out; omega)
         intro v252 w42 ho hb hg hat
         rw [← Ny251.out] at ho
         have n0_ := Aside0.mk (Kd.V_afterv (ok := (fun k_ => (P0_ k_ ∨ w.heap.size ≤ k_) ∧ some k_ ≠ (.slice Ao43 y248.length co43 : Value).ownBlock)) zq151 hg hat)
         have n1_ := Aside0.mk (Kd.V_afterv (ok := (fun k_ => (P0_ k_ ∨ w.heap.size ≤ k_) ∧ some k_ ≠ (.slice Ao43 y248.length co43 : Value).ownBlock)) (by (with_reducible repeat (first | apply Kd.V_alloc | apply Kd.V_drewN | apply Kd.V_drew)); exact Kd.V_mono HO244.out (fun _ hk => ⟨⟨hk.1, hk.2.2⟩, hk.2.1⟩)) hg hat)
         have n2_ := Aside0.mk (Kd.V_afterv (ok := (fun k_ => (P0_ k_ ∨ w.heap.size ≤ k_) ∧ some k_ ≠ (.slice Ao43 y248.length co43 : Value).ownBlock)) (by (with_reducible repeat (first | apply Kd.V_alloc | apply Kd.V_drewN | apply Kd.V_drew)); exact Kd.V_mono HO258.out (fun _ hk => ⟨⟨hk.1, hk.2.2⟩, hk.2.1⟩)) hg hat)
         have n3_ := Aside0.mk (Kd.R_after (ok := (fun k_ => (w.heap.size ≤ k_))) (zq1 HO250.out) hg hat)
         have n4_ := Aside0.mk (hb)
         have n5_ := Aside0.mk (ho)
         clear HO_0
         clear HO244
         clear HO258
         clear HO250
         clear HB
         clear HO247
         have HO_0 := n0_
         have HO244 := n1_
         have HO258 := n2_
         have HO250 := n3_
         have HB := n4_
         have HO253 := n5_
         clear n0_ n1_ n2_ n3_ n4_ n5_
         clear ho hb hg hat
         refine hK.out _ _ trivial (fun hHeld => ?_)
         clear hK K
         refine norm_ (a' := ?_) ?_ ?_
         rotate_left
         ·show Act.put _ (some 40) _ = _
          simp only [Act.put, List.setIfInBounds_toArray, List.set_cons_zero, List.set_cons_succ, i64_w, i32_w]
          rfl
         refine one_ (i := 11) (N := some 44) #[true, true, true, true, true, true, true, true, true, true, true, true, false] rfl rfl (one_of HT_.out zq22) zq56 (fun K hK => ?_)
         refine Kd.R_append_rows_step (Kd.int .i64) (w0 := w) w.heap.size zq58 (.tmp 40) (.tmp 43) 29 3 (.int .i64 0) 8 rfl Try.underlying29 info3 rfl zq56 zq17 v252 y251 y254 _ _ _ (fun k_ => (w.heap.size ≤ k_) ∧ some k_ ≠ (.slice Ao43 y248.length co43 : Value).ownBlock) (fun _ => False) rfl rfl ?aO ?aR (fun _ _ h => h) (fun _ h => h.elim) ?aF ?aB ?aS ?aL ?_
         (case aR => repeat (first | exact (Kd.V_reads' HO258.out).2.2 | (with_reducible refine Kd.C_alloc ?_ _) | (with_reducible refine Kd.C_drewN ?_ _) | (with_reducible refine Kd.C_drew ?_)))
         (case aB => exact zq3)
         (case aF => exact zq103)
         (case aO => exact (zq1 HO253.out))
         (case aS => exact zq113)
         (case aL => have := LMc32.out; omega)
         intro v260 w44 ho hb hg hat
         rw [← Ny259.out] at ho
         have n0_ := Aside0.mk (Kd.V_afterv (ok := (fun k_ => (P0_ k_ ∨ w.heap.size ≤ k_) ∧ some k_ ≠ (.slice Ao43 y248.length co43 : Value).ownBlock)) (zq2 HO_0.out) hg hat)
         have n1_ := Aside0.mk (Kd.V_afterv (ok := (fun k_ => (P0_ k_ ∨ w.heap.size ≤ k_) ∧ some k_ ≠ (.slice Ao43 y248.length co43 : Value).ownBlock)) (zq2 HO244.out) hg hat)
         have n2_ := Aside0.mk (Kd.V_afterv (ok := (fun k_ => (P0_ k_ ∨ w.heap.size ≤ k_) ∧ some k_ ≠ (.slice Ao43 y248.length co43 : Value).ownBlock)) (zq2 HO258.out) hg hat)
         have n3_ := Aside0.mk (Kd.R_after (ok := (fun k_ => (w.heap.size ≤ k_))) (zq1 HO250.out) hg hat)
         have n4_ := Aside0.mk (hb)
         have n5_ := Aside0.mk (ho)
         clear HO_0
         clear HO244
         clear HO258
         clear HO250
         clear HB
         clear HO253
         have HO_0 := n0_
         have HO244 := n1_
         have HO258 := n2_
         have HO250 := n3_
         have HB := n4_
         have HO261 := n5_
         clear n0_ n1_ n2_ n3_ n4_ n5_
         clear ho hb hg hat
         refine hK.out _ _ trivial (fun hHeld => ?_)
         clear hK K
         refine norm_ (a' := ?_) ?_ ?_
         rotate_left
         ·show Act.put _ (some 44) _ = _
          simp only [Act.put, List.setIfInBounds_toArray, List.set_cons_zero, List.set_cons_succ, i64_w, i32_w]
          rfl
         refine pure_ (i := 12) (N := some 4) (v := ?_) (a' := ?_) #[true, true, true, true, true, true, true, true, true, true, true, true, true] rfl rfl (any_of HT_.out zq22) (fun _ _ _ h => h) (Or.inl ⟨zq58, ?_⟩) ?_ ?_
         rotate_left
         exact zpw
         rotate_left
         exact zpa
         refine done_ (done_of HT_.out zq22) ?_
         try go_wp2
         go_ret
         exact ⟨_, zq9, Kd.V_mono (Kd.R_V (by (with_reducible repeat (first | apply Kd.R_alloc | apply Kd.R_drewN | apply Kd.R_drew)); exact Kd.R_mono HO261.out (fun _ hk => hk.1))) (fun k_ hk => by first | exact ⟨(.inr (hk.1)), hk.2⟩ | exact (.inr (hk))), zq3⟩
        ·rw [if_neg c32] at H
         exact absurd H zq63
       ·rw [if_neg c29] at H
        exact absurd H zq63
      ·rw [if_neg c28] at H
       exact absurd H zq63
     ·rw [if_neg c27] at H
      exact absurd H zq63
    ·rw [if_neg c26] at H
     exact absurd H zq63
def culletref07_lots.l0 : Nat → List (S45) → List Int → List Int → Int → Option (List Int)
 | 0, _, _, _, _ => none
 | k + 1, x1, x7, x8, x9 => if x9 < (x8.length : Int) then (if 0 ≤ x9 then (if 0 ≤ (rd x8 x9) then (if (rd x8 x9) < (x1.length : Int) then ((culletref07_put.f k x7 ((rd_T45 x1 (rd x8 x9)).f2)).bind fun t268 => (culletref07_lots.l0 k x1 t268 x8 (wrap64 (x9 + 1)))) else (none)) else (none)) else (none)) else (some x7)
def culletref07_lots.f (k : Nat) (a0_0 : Int) (l0_1 : List (S58)) (l0_2 : List (S56)) (l1 : List (S45)) (a2 : Int) : Option (List Int) := (culletref07_of.f k a0_0 l0_1 l0_2 l1 a2).bind fun t263 => (culletref07_lots.l0 k l1 ([] : List Int) t263 0)
set_option maxHeartbeats 8000000 in
set_option maxRecDepth 100000 in
theorem culletref07_lots.calls (k : Nat) (a0_0 : Int) (A0_1 : Option Addr) (c0_1 : Nat) (l0_1 : List (S58)) (A0_2 : Option Addr) (c0_2 : Nat) (l0_2 : List (S56)) (A1 : Option Addr) (c1 : Nat) (l1 : List (S45)) (a2 : Int) (r : List Int) (w : World) (hr0_1 : Kd.C k58 w A0_1 l0_1.length l0_1) (hc0_1 : l0_1.length ≤ c0_1) (hr0_2 : Kd.C k56 w A0_2 l0_2.length l0_2) (hc0_2 : l0_2.length ≤ c0_2) (hr1 : Kd.C k45 w A1 l1.length l1) (hc1 : l1.length ≤ c1) (h : culletref07_lots.f k a0_0 l0_1 l0_2 l1 a2 = some r) :
  Calls Try.prog 46 #[.agg #[.int .i64 a0_0, .slice A0_1 l0_1.length c0_1, .slice A0_2 l0_2.length c0_2], .slice A1 l1.length c1, .int .u8 a2] w fun e w' => ∃ v0_ : Value, e = .returned (v0_) ∧ Kd.V (Kd.int .i64) 3 w' w.heap.size (fun k_ => (w.heap.size ≤ k_)) v0_ r ∧ Below w.heap.size w w' := by
 have hu25 := Try.underlying25
 have HR0_1 := Aside0.mk hr0_1
 have HC0_1 := Aside0.mk hc0_1
 clear hr0_1 hc0_1
 have HR0_2 := Aside0.mk hr0_2
 have HC0_2 := Aside0.mk hc0_2
 clear hr0_2 hc0_2
 have HR1 := Aside0.mk hr1
 have HC1 := Aside0.mk hc1
 clear hr1 hc1
 have HB := Aside0.mk (Below.refl w.heap.size w)
 have H : ((culletref07_of.f k a0_0 l0_1 l0_2 l1 a2).bind fun t263 => (culletref07_lots.l0 k l1 ([] : List Int) t263 0)) = some r := h
 clear h
 replace H := Option.bind_eq_some_iff.mp H
 obtain ⟨t263, A40, H⟩ := H
 replace H : (culletref07_lots.l0 k l1 ([] : List Int) t263 0) = some r := H
 have A4 := Aside0.mk A40
 clear A40
 have H' := Aside0.mk H
 clear H
 go_enter Try.func46, Try.ntmps46
 go_wp2_with (first | ((with_reducible refine gate_dst (N := 3) rfl ?_); refine box_event ?hg (N := 3) ?hd (cs := #[.int .i64 a0_0, .slice A0_1 l0_1.length c0_1, .slice A0_2 l0_2.length c0_2]) (t := 25) ?hr ?_; (case hd => rfl); (case hg => rfl); (case hr => exact zq11); intro gb262 hg w5 hbox hb; have n_ := as4 (below_step zq3 hb) (hbox) ((zq31 : w.heap.size ≤ gb262)) ((zq31 : w.heap.size ≤ gb262)); clear HB hb hbox hg; obtain ⟨HB, BK262, GW262, GE262⟩ := n_; obtain ⟨hcz6_0, hcz6_1, hcz6_2, hfz6_0, hfz6_1, hfz6_2⟩ := bcs3 BK262.out) | ((with_reducible refine gate_callee (f := 35) rfl ?_); refine goesL_ (some 13) rfl rfl Try.func35 zq22 rfl #[.agg #[.int .i64 a0_0, .slice A0_1 l0_1.length c0_1, .slice A0_2 l0_2.length c0_2], .slice A1 l1.length c1, .int .u8 a2] rfl zq4 ?_; (with_reducible refine (culletref07_of.calls k a0_0 _ _ l0_1 _ _ l0_2 _ _ l1 a2 t263 _ ?side1 ?side2 ?side3 ?side4 ?side5 ?side6 A4.out).mono ?_); (case side1 => exact zq5); (case side2 => exact HC0_1.out); (case side3 => exact zq6); (case side4 => exact HC0_2.out); (case side5 => exact zq12); (case side6 => exact HC1.out); rintro e w7 ⟨v264, rfl, ho0, hb⟩; refine ⟨_, rfl, ?_⟩; have n_ := as3 (Kd.R_lower (Kd.R_newM (M := fun k_ => (w.heap.size ≤ k_)) ho0 (below_size zq46) (fun k_ h_ => h_)) (below_size zq46)) (blk_below (zq0 BK262.out) hb) (below_step zq46 hb); clear BK262 HB; obtain ⟨HO265, BK262, HB⟩ := n_; (try clear hb); (try clear hb2); (try clear hk); (try clear hi); (try clear ho0)))
 go_loopg [7, 9] k (fun kq v7 v9 w' => ∃ (x7_1 : List Int) (x9_1 : Int), v9 = .int .i64 x9_1 ∧ Aside0 (culletref07_lots.l0 kq l1 x7_1 t263 x9_1 = some r) ∧ Aside0 (kq ≤ k) ∧ Aside0 (Kd.V (Kd.int .i64) 3 w' w.heap.size (fun k_ => (w.heap.size ≤ k_) ∧ some k_ ≠ (v264 : Value).ownBlock ∧ k_ ≠ gb262) v7 x7_1) ∧ Aside0 (Kd.R (Kd.int .i64) 3 w' w.heap.size (fun k_ => (w.heap.size ≤ k_)) v264 t263) ∧ Aside0 (w'.heap[gb262]? = some (.cells #[.int .i64 a0_0, (.slice A0_1 l0_1.length c0_1), (.slice A0_2 l0_2.length c0_2)] 25 (0, 0))) ∧ Aside0 (Below w.heap.size w w'))
 case atStart => exact ⟨(([] : List Int)), (0), zq10, H', ⟨Nat.le_refl _⟩, ⟨Kd.V_nil _ _ _ _ _⟩, ⟨by (with_reducible repeat (first | apply Kd.R_alloc | apply Kd.R_drewN | apply Kd.R_drew)); exact Kd.R_mono HO265.out (fun _ hk => hk.1)⟩, ⟨(zq0 BK262.out)⟩, ⟨zq46⟩⟩
 case round =>
  clear H'
  try clear c1
  try clear p2
  try clear c3
  try clear c4
  try clear hcz6_0 hcz6_1 hcz6_2 hfz6_0 hfz6_1 hfz6_2
  obtain ⟨x7_1, x9_1, rfl, HA, HK1, HO_7, HO_8, BK262, HB⟩ := hrel
  cases gk with
  | zero => exact absurd HA.out (by simp [culletref07_lots.l0])
  | succ k1 =>
   have H := HA.out
   clear HA
   simp only [culletref07_lots.l0] at H
   by_cases c8 : x9_1 < (t263.length : Int)
   ·rw [if_pos c8] at H
    have c8b0 : decide (x9_1 < (t263.length : Int)) = true := decide_eq_true c8
    clear c8
    by_cases c9 : 0 ≤ x9_1
    ·rw [if_pos c9] at H
     have c9b0 : decide (0 ≤ x9_1) = true := decide_eq_true c9
     clear c9
     by_cases c10 : 0 ≤ (rd t263 x9_1)
     ·rw [if_pos c10] at H
      have c10b0 : decide (0 ≤ (rd t263 x9_1)) = true := decide_eq_true c10
      clear c10
      by_cases c11 : (rd t263 x9_1) < (l1.length : Int)
      ·rw [if_pos c11] at H
       have c11b0 : decide ((rd t263 x9_1) < (l1.length : Int)) = true := decide_eq_true c11
       clear c11
       replace H := Option.bind_eq_some_iff.mp H
       obtain ⟨t268, A120, H⟩ := H
       replace H : (culletref07_lots.l0 k1 l1 t268 t263 (wrap64 (x9_1 + 1))) = some r := H
       have A12 := Aside0.mk A120
       clear A120
       have H' := Aside0.mk H
       clear H
       obtain ⟨Ao13, co13, eo13⟩ := Kd.R_slice HO_8.out
       subst eo13
       have p266 : 0 ≤ (x9_1 : Int) := of_decide_eq_true zq7
       have q266 : x9_1 < (t263.length : Int) := of_decide_eq_true zq7
       obtain ⟨ad266, e266, hx266_0⟩ := Kd.at_int (Kd.R_reads' HO_8.out).2.2 x9_1 p266 q266
       cases e266
       replace p266 := eq_true p266
       replace q266 := eq_true q266
       have p267 : 0 ≤ ((rd t263 x9_1) : Int) := of_decide_eq_true zq7
       have q267 : (rd t263 x9_1) < (l1.length : Int) := of_decide_eq_true zq7
       obtain ⟨ad267, e267, hx267_0, hx267_1, hx267_2, hx267_3, hx267_4, hx267_5, hx267_6⟩ := at_T45 HR1.out (rd t263 x9_1) p267 q267
       cases e267
       replace hx267_0 := hcx HB.out hx267_0
       replace hx267_1 := hcx HB.out hx267_1
       replace hx267_2 := hcx HB.out hx267_2
       replace hx267_3 := hcx HB.out hx267_3
       replace hx267_4 := hcx HB.out hx267_4
       replace hx267_5 := hcx HB.out hx267_5
       replace hx267_6 := hcx HB.out hx267_6
       replace p267 := eq_true p267
       replace q267 := eq_true q267
       obtain ⟨Ao14, co14, eo14⟩ := Kd.V_slice HO_7.out
       subst eo14
       go_wp2_with (first | ((with_reducible refine gate_callee (f := 69) rfl ?_); refine goesL_ (some 29) rfl rfl Try.func69 zq22 rfl #[.slice Ao14 x7_1.length co14, .int .i64 ((rd_T45 l1 (rd t263 x9_1)).f2)] rfl zq4 ?_; (with_reducible refine (culletref07_put.calls k1 (fun k_ => ((w.heap.size ≤ k_) ∧ (some k_ ≠ (.slice (some ad266) t263.length co13 : Value).ownBlock ∧ k_ ≠ gb262))) _ _ x7_1 ((rd_T45 l1 (rd t263 x9_1)).f2) t268 _ ?side1 A12.out).mono ?_); (case side1 => exact HO_7.out); rintro e w15 ⟨v269, rfl, ho0, hb⟩; refine ⟨_, rfl, ?_⟩; have n_ := as5 (Kd.V_below (zq2 HO_7.out) hb) (Kd.R_below (zq1 HO_8.out) hb) (Kd.V_lower (Kd.V_mono (ok' := fun k_ => (w.heap.size ≤ k_) ∧ some k_ ≠ (.slice (some ad266) t263.length co13 : Value).ownBlock ∧ k_ ≠ gb262) ho0 (fun k_ hk_ => ⟨Or.elim hk_ (fun hs_ => hs_.1) (fun hn_ => (Nat.le_trans (below_size zq46) hn_)), Or.elim hk_ (fun hs_ => hs_.2.1) (fun hn_ => (Kd.fresh' (Kd.R_lt (zq1 HO_8.out)) k_ hn_)), Or.elim hk_ (fun hs_ => hs_.2.2) (fun hn_ => (Kd.freshB (zq0 BK262.out) k_ hn_))⟩)) (below_size zq46)) (blk_below (zq0 BK262.out) hb) (below_step zq46 hb); clear HO_7 HO_8 BK262 HB; obtain ⟨HO_7, HO_8, HO270, BK262, HB⟩ := n_; (try clear hb); (try clear hb2); (try clear hk); (try clear hi); (try clear ho0)))
       go_roundg k1
       case measure => have := HK1.out; omega
       case rel => exact ⟨(t268), (wrap64 (x9_1 + 1)), zq10, H', ⟨zq79⟩, ⟨(zq2 HO270.out)⟩, ⟨(zq1 HO_8.out)⟩, ⟨(zq0 BK262.out)⟩, ⟨zq46⟩⟩
      ·rw [if_neg c11] at H
       exact absurd H zq63
     ·rw [if_neg c10] at H
      exact absurd H zq63
    ·rw [if_neg c9] at H
     exact absurd H zq63
   ·rw [if_neg c8] at H
    have c8b0 : decide (x9_1 < (t263.length : Int)) = false := decide_eq_false c8
    clear c8
    obtain rfl := Option.some.inj H
    obtain ⟨Ao16, co16, eo16⟩ := Kd.R_slice HO_8.out
    subst eo16
    go_wp2
    go_ret
    exact ⟨_, zq9, by (with_reducible repeat (first | apply Kd.V_alloc | apply Kd.V_drewN | apply Kd.V_drew)); exact Kd.V_mono HO_7.out (fun _ hk => hk.1), zq46⟩
def culletref07_has.l0 : Nat → List Int → Int → Int → Option (Bool)
 | 0, _, _, _ => none
 | k + 1, x0, x1, x5 => if x5 < (x0.length : Int) then (if 0 ≤ x5 then (if (rd x0 x5) = x1 then (some true) else (culletref07_has.l0 k x0 x1 (wrap64 (x5 + 1)))) else (none)) else (some false)
def culletref07_has.f (k : Nat) (l0 : List Int) (a1 : Int) : Option (Bool) := culletref07_has.l0 k l0 a1 0
set_option maxHeartbeats 8000000 in
set_option maxRecDepth 100000 in
theorem culletref07_has.calls (k : Nat) (A0 : Option Addr) (c0 : Nat) (l0 : List Int) (a1 : Int) (r : Bool) (w : World) (hr0 : Kd.C (Kd.int .i64) w A0 l0.length l0) (hc0 : l0.length ≤ c0) (h : culletref07_has.f k l0 a1 = some r) :
  Calls Try.prog 70 #[.slice A0 l0.length c0, .int .i64 a1] w fun e w' => e = .returned (.bool r) ∧ Drawn0 w w' := by
 have HR0 := Aside0.mk hr0
 have HC0 := Aside0.mk hc0
 clear hr0 hc0
 have H : (culletref07_has.l0 k l0 a1 0) = some r := h
 clear h
 have H' := Aside0.mk H
 clear H
 go_enter Try.func70, Try.ntmps70
 go_wp2
 go_loopg [5] k (fun kq v5 w' => ∃ (x5_1 : Int), v5 = .int .i64 x5_1 ∧ Aside0 (culletref07_has.l0 kq l0 a1 x5_1 = some r) ∧ Aside0 (kq ≤ k) ∧ Drawn0 w w')
 case atStart => exact ⟨(0), zq10, H', ⟨Nat.le_refl _⟩, zq32⟩
 case round =>
  clear H'
  try clear p2
  obtain ⟨x5_1, rfl, HA, HK1, ⟨m1, rfl⟩⟩ := hrel
  cases gk with
  | zero => exact absurd HA.out (by simp [culletref07_has.l0])
  | succ k1 =>
   have H := HA.out
   clear HA
   simp only [culletref07_has.l0] at H
   by_cases c3 : x5_1 < (l0.length : Int)
   ·rw [if_pos c3] at H
    have c3b0 : decide (x5_1 < (l0.length : Int)) = true := decide_eq_true c3
    clear c3
    by_cases c4 : 0 ≤ x5_1
    ·rw [if_pos c4] at H
     have c4b0 : decide (0 ≤ x5_1) = true := decide_eq_true c4
     clear c4
     by_cases c5 : (rd l0 x5_1) = a1
     ·rw [if_pos c5] at H
      have c5b0 : ((rd l0 x5_1) == a1) = true := beq_iff_eq.mpr c5
      have c5b1 : ((rd l0 x5_1) != a1) = false := bne_eq_false_iff_eq.mpr c5
      clear c5
      obtain rfl := Option.some.inj H
      have p271 : 0 ≤ (x5_1 : Int) := of_decide_eq_true zq7
      have q271 : x5_1 < (l0.length : Int) := of_decide_eq_true zq7
      obtain ⟨ad271, e271, hx271_0⟩ := Kd.at_int HR0.out x5_1 p271 q271
      cases e271
      replace p271 := eq_true p271
      replace q271 := eq_true q271
      go_wp2
      go_ret
      exact ⟨zq10, zq32⟩
     ·rw [if_neg c5] at H
      have c5b0 : ((rd l0 x5_1) == a1) = false := beq_eq_false_iff_ne.mpr c5
      have c5b1 : ((rd l0 x5_1) != a1) = true := bne_iff_ne.mpr c5
      have H' := Aside0.mk H
      clear H
      have p271 : 0 ≤ (x5_1 : Int) := of_decide_eq_true zq7
      have q271 : x5_1 < (l0.length : Int) := of_decide_eq_true zq7
      obtain ⟨ad271, e271, hx271_0⟩ := Kd.at_int HR0.out x5_1 p271 q271
      cases e271
      replace p271 := eq_true p271
      replace q271 := eq_true q271
      go_wp2
      go_roundg k1
      case measure => have := HK1.out; omega
      case rel => exact ⟨(wrap64 (x5_1 + 1)), zq10, H', ⟨zq79⟩, zq32⟩
    ·rw [if_neg c4] at H
     exact absurd H zq63
   ·rw [if_neg c3] at H
    have c3b0 : decide (x5_1 < (l0.length : Int)) = false := decide_eq_false c3
    clear c3
    obtain rfl := Option.some.inj H
    go_wp2
    go_ret
    exact ⟨zq10, zq32⟩
def culletref07_without.l0 : Nat → List Int → List Int → List Int → Int → Option (List Int)
 | 0, _, _, _, _ => none
 | k + 1, x0, x1, x5, x6 => if x6 < (x0.length : Int) then (if 0 ≤ x6 then ((culletref07_has.f k x1 (rd x0 x6)).bind fun t273 => (if t273 = true then (culletref07_without.l0 k x0 x1 x5 (wrap64 (x6 + 1))) else (if x5.length < 17592186044416 then (culletref07_without.l0 k x0 x1 (x5 ++ [rd x0 x6]) (wrap64 (x6 + 1))) else (none)))) else (none)) else (some x5)
def culletref07_without.f (k : Nat) (l0 : List Int) (l1 : List Int) : Option (List Int) := culletref07_without.l0 k l0 l1 ([] : List Int) 0
set_option maxHeartbeats 8000000 in
set_option maxRecDepth 100000 in
theorem culletref07_without.calls (k : Nat) (A0 : Option Addr) (c0 : Nat) (l0 : List Int) (A1 : Option Addr) (c1 : Nat) (l1 : List Int) (r : List Int) (w : World) (hr0 : Kd.C (Kd.int .i64) w A0 l0.length l0) (hc0 : l0.length ≤ c0) (hr1 : Kd.C (Kd.int .i64) w A1 l1.length l1) (hc1 : l1.length ≤ c1) (h : culletref07_without.f k l0 l1 = some r) :
  Calls Try.prog 47 #[.slice A0 l0.length c0, .slice A1 l1.length c1] w fun e w' => ∃ v0_ : Value, e = .returned (v0_) ∧ Kd.R (Kd.int .i64) 3 w' w.heap.size (fun _ => True) v0_ r ∧ Below w.heap.size w w' := by
 have HR0 := Aside0.mk hr0
 have HC0 := Aside0.mk hc0
 clear hr0 hc0
 have HR1 := Aside0.mk hr1
 have HC1 := Aside0.mk hc1
 clear hr1 hc1
 have HB := Aside0.mk (Below.refl w.heap.size w)
 have H : (culletref07_without.l0 k l0 l1 ([] : List Int) 0) = some r := h
 clear h
 have H' := Aside0.mk H
 clear H
 go_enter Try.func47, Try.ntmps47
 go_wp2
 go_loopg [5, 6] k (fun kq v5 v6 w' => ∃ (x5_1 : List Int) (x6_1 : Int), v6 = .int .i64 x6_1 ∧ Aside0 (culletref07_without.l0 kq l0 l1 x5_1 x6_1 = some r) ∧ Aside0 (kq ≤ k) ∧ Aside0 (Kd.R (Kd.int .i64) 3 w' w.heap.size (fun _ => True) v5 x5_1) ∧ Aside0 (Below w.heap.size w w'))
 case atStart => exact ⟨(([] : List Int)), (0), zq10, H', ⟨Nat.le_refl _⟩, ⟨zq66⟩, ⟨zq3⟩⟩
 case round =>
  clear H'
  try clear c1
  try clear p2
  obtain ⟨x5_1, x6_1, rfl, HA, HK1, HO_5, HB⟩ := hrel
  cases gk with
  | zero => exact absurd HA.out (by simp [culletref07_without.l0])
  | succ k1 =>
   have H := HA.out
   clear HA
   simp only [culletref07_without.l0] at H
   by_cases c3 : x6_1 < (l0.length : Int)
   ·rw [if_pos c3] at H
    have c3b0 : decide (x6_1 < (l0.length : Int)) = true := decide_eq_true c3
    clear c3
    by_cases c4 : 0 ≤ x6_1
    ·rw [if_pos c4] at H
     have c4b0 : decide (0 ≤ x6_1) = true := decide_eq_true c4
     clear c4
     replace H := Option.bind_eq_some_iff.mp H
     obtain ⟨t273, A50, H⟩ := H
     replace H : (if t273 = true then (culletref07_without.l0 k1 l0 l1 x5_1 (wrap64 (x6_1 + 1))) else (if x5_1.length < 17592186044416 then (culletref07_without.l0 k1 l0 l1 (x5_1 ++ [rd l0 x6_1]) (wrap64 (x6_1 + 1))) else (none))) = some r := H
     have A5 := Aside0.mk A50
     clear A50
     by_cases c6 : t273 = true
     ·subst c6
      have H1 : (culletref07_without.l0 k1 l0 l1 x5_1 (wrap64 (x6_1 + 1))) = some r := by rw [if_pos rfl] at H; exact H
      clear H
      have H := H1
      clear H1
      have H' := Aside0.mk H
      clear H
      have p272 : 0 ≤ (x6_1 : Int) := of_decide_eq_true zq7
      have q272 : x6_1 < (l0.length : Int) := of_decide_eq_true zq7
      obtain ⟨ad272, e272, hx272_0⟩ := Kd.at_int HR0.out x6_1 p272 q272
      cases e272
      replace hx272_0 := hcx HB.out hx272_0
      replace p272 := eq_true p272
      replace q272 := eq_true q272
      go_wp2_with (first | ((with_reducible refine gate_callee (f := 70) rfl ?_); refine goesL_ (some 18) rfl rfl Try.func70 zq22 rfl #[.slice A1 l1.length c1, .int .i64 (rd l0 x6_1)] rfl zq4 ?_; (with_reducible refine (culletref07_has.calls k1 _ _ l1 (rd l0 x6_1) true _ ?side1 ?side2 A5.out).mono ?_); (case side1 => exact zq12); (case side2 => exact HC1.out); rintro e w' ⟨rfl, ⟨nd, rfl⟩⟩; refine ⟨_, rfl, ?_⟩))
      go_roundg k1
      case measure => have := HK1.out; omega
      case rel => exact ⟨(x5_1), (wrap64 (x6_1 + 1)), zq10, H', ⟨zq79⟩, ⟨(zq1 HO_5.out)⟩, ⟨zq3⟩⟩
     ·replace c6 := Bool.eq_false_iff.mpr c6
      subst c6
      have H1 : (if x5_1.length < 17592186044416 then (culletref07_without.l0 k1 l0 l1 (x5_1 ++ [rd l0 x6_1]) (wrap64 (x6_1 + 1))) else (none)) = some r := by rw [if_neg (show ¬ (false = true) by decide)] at H; exact H
      clear H
      have H := H1
      clear H1
      by_cases c7 : x5_1.length < 17592186044416
      ·rw [if_pos c7] at H
       have LMc7 := Aside0.mk c7
       clear c7
       obtain ⟨y275, hy275⟩ : ∃ y_ : List Int, y_ = (x5_1 ++ [rd l0 x6_1]) := ⟨_, rfl⟩
       replace H : (culletref07_without.l0 k1 l0 l1 y275 (wrap64 (x6_1 + 1))) = some r := by first | (rw [hy275]; with_reducible exact H) | (have H2_ := (Option.bind_some _ _).symm.trans H; rw [hy275]; with_reducible exact H2_) | (have H2_ := (Option.bind_some _ _).symm.trans H; with_reducible exact H2_) | with_reducible exact H | (rw [hy275]; exact H) | exact H
       have Ny275 := Aside0.mk hy275
       clear hy275
       have H' := Aside0.mk H
       clear H
       have p272 : 0 ≤ (x6_1 : Int) := of_decide_eq_true zq7
       have q272 : x6_1 < (l0.length : Int) := of_decide_eq_true zq7
       obtain ⟨ad272, e272, hx272_0⟩ := Kd.at_int HR0.out x6_1 p272 q272
       cases e272
       replace hx272_0 := hcx HB.out hx272_0
       replace p272 := eq_true p272
       replace q272 := eq_true q272
       go_wp2_with (first | ((with_reducible refine gate_callee (f := 70) rfl ?_); refine goesL_ (some 18) rfl rfl Try.func70 zq22 rfl #[.slice A1 l1.length c1, .int .i64 (rd l0 x6_1)] rfl zq4 ?_; (with_reducible refine (culletref07_has.calls k1 _ _ l1 (rd l0 x6_1) false _ ?side1 ?side2 A5.out).mono ?_); (case side1 => exact zq12); (case side2 => exact HC1.out); rintro e w' ⟨rfl, ⟨nd, rfl⟩⟩; refine ⟨_, rfl, ?_⟩; have p274 : 0 ≤ (x6_1 : Int) := of_decide_eq_true zq7; have q274 : x6_1 < (l0.length : Int) := of_decide_eq_true zq7; obtain ⟨ad274, e274, hx274_0⟩ := Kd.at_int HR0.out x6_1 p274 q274; obtain rfl : ad272 = ad274 := (by injection e274); replace hx274_0 := hcx HB.out hx274_0; replace p274 := eq_true p274; replace q274 := eq_true q274) | ((with_reducible refine gate_builtin (b := .append) (xs := #[.tmp 20, .tmp 25]) rfl ?_); at_builtin; refine Kd.R_append (Kd.int .i64) (w0 := w) w.heap.size rfl (.tmp 20) (.tmp 25) 29 3 (.int .i64 0) 8 rfl Try.underlying29 info3 rfl zq56 zq17 u5 x5_1 (rd l0 x6_1) [.int .i64 (rd l0 x6_1)] (fun _ => True) (fun _ => False) rfl rfl ?aP (fun _ hk => hk.elim) ?aF ?aO ?aB ?aS ?aL ?_; (case aP => exact rfl); (case aB => exact zq3); (case aF => exact (fun _ _ => trivial)); (case aO => exact (zq1 HO_5.out)); (case aS => exact zq113); (case aL => have := LMc7.out; omega); intro v276 w8 ho hb hg hat; rw [← Ny275.out] at ho; have n_ := as2 (hb) (ho); clear HB HO_5; obtain ⟨HB, HO277⟩ := n_; clear ho hb hg hat))
       go_roundg k1
       case measure => have := HK1.out; omega
       case rel => exact ⟨(y275), (wrap64 (x6_1 + 1)), zq10, H', ⟨zq79⟩, ⟨(zq1 HO277.out)⟩, ⟨zq3⟩⟩
      ·rw [if_neg c7] at H
       exact absurd H zq63
    ·rw [if_neg c4] at H
     exact absurd H zq63
   ·rw [if_neg c3] at H
    have c3b0 : decide (x6_1 < (l0.length : Int)) = false := decide_eq_false c3
    clear c3
    obtain rfl := Option.some.inj H
    go_wp2
    go_ret
    exact ⟨_, zq9, (zq1 HO_5.out), zq3⟩
def culletref07_Lots.f (k : Nat) (a0_0 : Int) (l0_1 : List (S58)) (l0_2 : List (S56)) (l1 : List (S45)) : Option (List Int × List Int × List Int × Int) := (culletref07_CheckLog.f k a0_0 l0_1 l0_2 l1).bind fun t279 => (if t279 = 0 then ((culletref07_lots.f k a0_0 l0_1 l0_2 l1 2).bind fun t280 => ((culletref07_lots.f k a0_0 l0_1 l0_2 l1 3).bind fun t283 => ((culletref07_lots.f k a0_0 l0_1 l0_2 l1 0).bind fun t286 => ((culletref07_without.f k t286 t283).bind fun t289 => ((culletref07_without.f k t280 t283).bind fun t292 => ((culletref07_without.f k t292 t289).bind fun t295 => (some (t295, t283, t289, 0)))))))) else (some (([] : List Int), ([] : List Int), ([] : List Int), t279)))
def culletref07_Lots.T4 : Bool × List (List Nat × List Nat) := (true, [([], []), ([], []), ([0, 1], [0, 1]), ([], []), ([], []), ([3, 4, 2], [3, 4]), ([], []), ([], []), ([6, 7, 5], [6, 7]), ([2, 8, 0, 1, 2], [2]), ([5, 9, 0, 1, 2, 3, 4, 5, 9], [5]), ([8, 10, 0, 1, 2, 3, 4, 5, 6, 7, 8, 9, 10], [8])])
def culletref07_Lots.B4 : List Nat := [0, 0, 3, 0, 0, 31, 0, 0, 255, 511, 1023, 2047]
theorem culletref07_Lots.tab4 : rtab .any (opsOf Try.f18 4) = culletref07_Lots.T4 := by kernel_rfl
theorem culletref07_Lots.bits4 : waitsOk culletref07_Lots.T4.2 culletref07_Lots.B4 = true := by kernel_rfl
set_option maxHeartbeats 8000000 in
set_option maxRecDepth 100000 in
theorem culletref07_Lots.calls (k : Nat) (a0_0 : Int) (A0_1 : Option Addr) (c0_1 : Nat) (l0_1 : List (S58)) (A0_2 : Option Addr) (c0_2 : Nat) (l0_2 : List (S56)) (A1 : Option Addr) (c1 : Nat) (l1 : List (S45)) (r1 : List Int) (r2 : List Int) (r3 : List Int) (r4 : Int) (w : World) (hr0_1 : Kd.C k58 w A0_1 l0_1.length l0_1) (hc0_1 : l0_1.length ≤ c0_1) (hr0_2 : Kd.C k56 w A0_2 l0_2.length l0_2) (hc0_2 : l0_2.length ≤ c0_2) (hr1 : Kd.C k45 w A1 l1.length l1) (hc1 : l1.length ≤ c1) (h : culletref07_Lots.f k a0_0 l0_1 l0_2 l1 = some (r1, r2, r3, r4)) :
  Calls Try.prog 18 #[.agg #[.int .i64 a0_0, .slice A0_1 l0_1.length c0_1, .slice A0_2 l0_2.length c0_2], .slice A1 l1.length c1] w fun e w' => ∃ v0_ v1_ v2_ : Value, e = .returned (.tuple #[v0_, v1_, v2_, .int .i64 r4]) ∧ Kd.R (Kd.int .i64) 3 w' w.heap.size (fun k_ => (w.heap.size ≤ k_) ∧ some k_ ≠ (v2_ : Value).ownBlock) v0_ r1 ∧ Kd.V (Kd.int .i64) 3 w' w.heap.size (fun k_ => (w.heap.size ≤ k_) ∧ some k_ ≠ (v0_ : Value).ownBlock ∧ some k_ ≠ (v2_ : Value).ownBlock) v1_ r2 ∧ Kd.R (Kd.int .i64) 3 w' w.heap.size (fun k_ => (w.heap.size ≤ k_) ∧ some k_ ≠ (v0_ : Value).ownBlock) v2_ r3 ∧ Below w.heap.size w w' := by
 have hu25 := Try.underlying25
 have HR0_1 := Aside0.mk hr0_1
 have HC0_1 := Aside0.mk hc0_1
 clear hr0_1 hc0_1
 have HR0_2 := Aside0.mk hr0_2
 have HC0_2 := Aside0.mk hc0_2
 clear hr0_2 hc0_2
 have HR1 := Aside0.mk hr1
 have HC1 := Aside0.mk hc1
 clear hr1 hc1
 have HB := Aside0.mk (Below.refl w.heap.size w)
 have H : ((culletref07_CheckLog.f k a0_0 l0_1 l0_2 l1).bind fun t279 => (if t279 = 0 then ((culletref07_lots.f k a0_0 l0_1 l0_2 l1 2).bind fun t280 => ((culletref07_lots.f k a0_0 l0_1 l0_2 l1 3).bind fun t283 => ((culletref07_lots.f k a0_0 l0_1 l0_2 l1 0).bind fun t286 => ((culletref07_without.f k t286 t283).bind fun t289 => ((culletref07_without.f k t280 t283).bind fun t292 => ((culletref07_without.f k t292 t289).bind fun t295 => (some (t295, t283, t289, 0)))))))) else (some (([] : List Int), ([] : List Int), ([] : List Int), t279)))) = some (r1, r2, r3, r4) := h
 clear h
 replace H := Option.bind_eq_some_iff.mp H
 obtain ⟨t279, A30, H⟩ := H
 replace H : (if t279 = 0 then ((culletref07_lots.f k a0_0 l0_1 l0_2 l1 2).bind fun t280 => ((culletref07_lots.f k a0_0 l0_1 l0_2 l1 3).bind fun t283 => ((culletref07_lots.f k a0_0 l0_1 l0_2 l1 0).bind fun t286 => ((culletref07_without.f k t286 t283).bind fun t289 => ((culletref07_without.f k t280 t283).bind fun t292 => ((culletref07_without.f k t292 t289).bind fun t295 => (some (t295, t283, t289, 0)))))))) else (some (([] : List Int), ([] : List Int), ([] : List Int), t279))) = some (r1, r2, r3, r4) := H
 have A3 := Aside0.mk A30
 clear A30
 by_cases c4 : t279 = 0
 ·rw [if_pos c4] at H
  have c4b0 : (t279 == 0) = true := beq_iff_eq.mpr c4
  have c4b1 : (t279 != 0) = false := bne_eq_false_iff_eq.mpr c4
  clear c4
  replace H := Option.bind_eq_some_iff.mp H
  obtain ⟨t280, A50, H⟩ := H
  replace H : ((culletref07_lots.f k a0_0 l0_1 l0_2 l1 3).bind fun t283 => ((culletref07_lots.f k a0_0 l0_1 l0_2 l1 0).bind fun t286 => ((culletref07_without.f k t286 t283).bind fun t289 => ((culletref07_without.f k t280 t283).bind fun t292 => ((culletref07_without.f k t292 t289).bind fun t295 => (some (t295, t283, t289, 0))))))) = some (r1, r2, r3, r4) := H
  have A5 := Aside0.mk A50
  clear A50
  replace H := Option.bind_eq_some_iff.mp H
  obtain ⟨t283, A60, H⟩ := H
  replace H : ((culletref07_lots.f k a0_0 l0_1 l0_2 l1 0).bind fun t286 => ((culletref07_without.f k t286 t283).bind fun t289 => ((culletref07_without.f k t280 t283).bind fun t292 => ((culletref07_without.f k t292 t289).bind fun t295 => (some (t295, t283, t289, 0)))))) = some (r1, r2, r3, r4) := H
  have A6 := Aside0.mk A60
  clear A60
  replace H := Option.bind_eq_some_iff.mp H
  obtain ⟨t286, A70, H⟩ := H
  replace H : ((culletref07_without.f k t286 t283).bind fun t289 => ((culletref07_without.f k t280 t283).bind fun t292 => ((culletref07_without.f k t292 t289).bind fun t295 => (some (t295, t283, t289, 0))))) = some (r1, r2, r3, r4) := H
  have A7 := Aside0.mk A70
  clear A70
  replace H := Option.bind_eq_some_iff.mp H
  obtain ⟨t289, A80, H⟩ := H
  replace H : ((culletref07_without.f k t280 t283).bind fun t292 => ((culletref07_without.f k t292 t289).bind fun t295 => (some (t295, t283, t289, 0)))) = some (r1, r2, r3, r4) := H
  have A8 := Aside0.mk A80
  clear A80
  replace H := Option.bind_eq_some_iff.mp H
  obtain ⟨t292, A90, H⟩ := H
  replace H : ((culletref07_without.f k t292 t289).bind fun t295 => (some (t295, t283, t289, 0))) = some (r1, r2, r3, r4) := H
  have A9 := Aside0.mk A90
  clear A90
  replace H := Option.bind_eq_some_iff.mp H
  obtain ⟨t295, A100, H⟩ := H
  replace H : (some (t295, t283, t289, 0)) = some (r1, r2, r3, r4) := H
  have A10 := Aside0.mk A100
  clear A100
  simp only [Option.some.injEq, Prod.mk.injEq] at H
  obtain ⟨rfl, rfl, rfl, rfl⟩ := H
  go_enter Try.func18, Try.ntmps18
  try go_wp2_with (first | ((with_reducible refine gate_dst (N := 2) rfl ?_); refine box_event ?hg (N := 2) ?hd (cs := #[.int .i64 a0_0, .slice A0_1 l0_1.length c0_1, .slice A0_2 l0_2.length c0_2]) (t := 25) ?hr ?_; (case hd => rfl); (case hg => rfl); (case hr => exact zq11); intro gb278 hg w11 hbox hb; have n_ := as4 (below_step zq3 hb) (hbox) ((zq31 : w.heap.size ≤ gb278)) ((zq31 : w.heap.size ≤ gb278)); clear HB hb hbox hg; obtain ⟨HB, BK278, GW278, GE278⟩ := n_; obtain ⟨hcz12_0, hcz12_1, hcz12_2, hfz12_0, hfz12_1, hfz12_2⟩ := bcs3 BK278.out) | ((with_reducible refine gate_callee (f := 34) rfl ?_); refine goesL_ (some 14) rfl rfl Try.func34 zq22 rfl #[.agg #[.int .i64 a0_0, .slice A0_1 l0_1.length c0_1, .slice A0_2 l0_2.length c0_2], .slice A1 l1.length c1] rfl zq4 ?_; (with_reducible refine (culletref07_CheckLog.calls k a0_0 _ _ l0_1 _ _ l0_2 _ _ l1 t279 _ ?side1 ?side2 ?side3 ?side4 ?side5 ?side6 A3.out).mono ?_); (case side1 => exact zq5); (case side2 => exact HC0_1.out); (case side3 => exact zq6); (case side4 => exact HC0_2.out); (case side5 => exact zq12); (case side6 => exact HC1.out); rintro e w13 ⟨rfl, hb⟩; refine ⟨_, rfl, ?_⟩; have n_ := as2 (blk_below (zq0 BK278.out) hb) (below_step zq24 hb); clear BK278 HB; obtain ⟨BK278, HB⟩ := n_; (try clear hb); (try clear hb2); (try clear hk); (try clear hi)))
  have n0_ := Aside0.mk (blk_drew BK278.out)
  have n1_ := Aside0.mk (below_drew1 HB.out)
  clear BK278
  clear HB
  have BK278 := n0_
  have HB := n1_
  clear n0_ n1_
  refine start_ (n := 12) (S := fun w' => w'.cell? ⟨gb278, 0, none⟩ = some (.int .i64 a0_0) ∧ w'.cell? ⟨gb278, 1, none⟩ = some (.slice A0_1 l0_1.length c0_1) ∧ w'.cell? ⟨gb278, 2, none⟩ = some (.slice A0_2 l0_2.length c0_2)) (ds := []) #[false, false, false, false, false, false, false, false, false, false, false, false] zq22 rfl rfl ⟨(blk_cell BK278.out 0).trans rfl, (blk_cell BK278.out 1).trans rfl, (blk_cell BK278.out 2).trans rfl⟩ (fun hHeld => ?_); refine with_tabW culletref07_Lots.tab4 culletref07_Lots.bits4 (fun HT_ HW_ => ?_)
  generalize w13.drew = w14 at BK278 HB hHeld ⊢
  refine pure_ (i := 1) (N := some 19) (v := ?_) (a' := ?_) #[false, true, false, false, false, false, false, false, false, false, false, false] rfl rfl (any_of HT_.out zq22) (fun _ _ _ h => h) (Or.inl ⟨zq58, ?_⟩) ?_ ?_
  rotate_left
  exact zpw
  rotate_left
  exact zpa
  refine pure_ (i := 4) (N := some 22) (v := ?_) (a' := ?_) #[false, true, false, false, true, false, false, false, false, false, false, false] rfl rfl (any_of HT_.out zq22) (fun _ _ _ h => h) (Or.inl ⟨zq58, ?_⟩) ?_ ?_
  rotate_left
  exact zpw
  rotate_left
  exact zpa
  refine pure_ (i := 7) (N := some 25) (v := ?_) (a' := ?_) #[false, true, false, false, true, false, false, true, false, false, false, false] rfl rfl (any_of HT_.out zq22) (fun _ _ _ h => h) (Or.inl ⟨zq58, ?_⟩) ?_ ?_
  rotate_left
  exact zpw
  rotate_left
  exact zpa
  refine take_ (i := 0) (N := some 18) (v := ?_) (a' := ?_) #[true, true, false, false, true, false, false, true, false, false, false, false] rfl rfl (take_ofW HT_.out HW_.out zq22) (fun _ _ _ h => h) (Or.inl ⟨zq58, ?_⟩) hHeld ?_ ?_
  rotate_left
  ·rintro w' ⟨s0, s1, s2⟩
   go_simp
   with_reducible rfl
  rotate_left
  exact zpa
  refine take_ (i := 3) (N := some 21) (v := ?_) (a' := ?_) #[true, true, false, true, true, false, false, true, false, false, false, false] rfl rfl (take_ofW HT_.out HW_.out zq22) (fun _ _ _ h => h) (Or.inl ⟨zq58, ?_⟩) hHeld ?_ ?_
  rotate_left
  ·rintro w' ⟨s0, s1, s2⟩
   go_simp
   with_reducible rfl
  rotate_left
  exact zpa
  refine take_ (i := 6) (N := some 24) (v := ?_) (a' := ?_) #[true, true, false, true, true, false, true, true, false, false, false, false] rfl rfl (take_ofW HT_.out HW_.out zq22) (fun _ _ _ h => h) (Or.inl ⟨zq58, ?_⟩) hHeld ?_ ?_
  rotate_left
  ·rintro w' ⟨s0, s1, s2⟩
   go_simp
   with_reducible rfl
  rotate_left
  exact zpa
  refine one_ (i := 2) (N := some 20) #[true, true, true, true, true, false, true, true, false, false, false, false] rfl rfl (one_of HT_.out zq22) zq56 (fun K hK => ?_)
  refine goes_ Try.func46 zq22 rfl #[.agg #[.int .i64 a0_0, .slice A0_1 l0_1.length c0_1, .slice A0_2 l0_2.length c0_2], .slice A1 l1.length c1, .int .u8 2] zq58 rfl rfl zq4 ?_
  with_reducible refine (culletref07_lots.calls k a0_0 _ _ l0_1 _ _ l0_2 _ _ l1 2 t280 _ ?side1 ?side2 ?side3 ?side4 ?side5 ?side6 A5.out).mono ?_
  (case side1 => exact zq5)
  (case side2 => exact HC0_1.out)
  (case side3 => exact zq6)
  (case side4 => exact HC0_2.out)
  (case side5 => exact zq12)
  (case side6 => exact HC1.out)
  rintro e w15 ⟨v281, rfl, ho0, hb⟩
  refine ⟨_, rfl, ?_⟩
  have n0_ := Aside0.mk (Kd.V_lower (Kd.V_mono (ok' := fun k_ => (w.heap.size ≤ k_) ∧ k_ ≠ gb278) ho0 (fun k_ hk_ => ⟨(Nat.le_trans (below_size zq24) hk_), (Kd.freshB (zq0 BK278.out) k_ hk_)⟩)) (below_size zq24))
  have n1_ := Aside0.mk (blk_below (zq0 BK278.out) hb)
  have n2_ := Aside0.mk (below_step zq24 hb)
  clear BK278
  clear HB
  have HO282 := n0_
  have BK278 := n1_
  have HB := n2_
  clear n0_ n1_ n2_
  (try clear hb)
  (try clear hb2)
  (try clear hk)
  (try clear hi)
  (try clear ho0)
  refine hK.out _ _ ⟨(blk_cell BK278.out 0).trans rfl, (blk_cell BK278.out 1).trans rfl, (blk_cell BK278.out 2).trans rfl⟩ (fun hHeld => ?_)
  clear hK K
  refine norm_ (a' := ?_) ?_ ?_
  rotate_left
  ·show Act.put _ (some 20) _ = _
   simp only [Act.put, List.setIfInBounds_toArray, List.set_cons_zero, List.set_cons_succ, i64_w, i32_w]
   rfl
  refine one_ (i := 5) (N := some 23) #[true, true, true, true, true, true, true, true, false, false, false, false] rfl rfl (one_of HT_.out zq22) zq56 (fun K hK => ?_)
  refine goes_ Try.func46 zq22 rfl #[.agg #[.int .i64 a0_0, .slice A0_1 l0_1.length c0_1, .slice A0_2 l0_2.length c0_2], .slice A1 l1.length c1, .int .u8 3] zq58 rfl rfl zq4 ?_
  with_reducible refine (culletref07_lots.calls k a0_0 _ _ l0_1 _ _ l0_2 _ _ l1 3 t283 _ ?side1 ?side2 ?side3 ?side4 ?side5 ?side6 A6.out).mono ?_
  (case side1 => exact zq5)
  (case side2 => exact HC0_1.out)
  (case side3 => exact zq6)
  (case side4 => exact HC0_2.out)
  (case side5 => exact zq12)
  (case side6 => exact HC1.out)
  rintro e w16 ⟨v284, rfl, ho0, hb⟩
  refine ⟨_, rfl, ?_⟩
  have n0_ := Aside0.mk (Kd.V_below (zq2 HO282.out) hb)
  have n1_ := Aside0.mk (Kd.V_lower (Kd.V_mono (ok' := fun k_ => (w.heap.size ≤ k_) ∧ k_ ≠ gb278) ho0 (fun k_ hk_ => ⟨(Nat.le_trans (below_size zq24) hk_), (Kd.freshB (zq0 BK278.out) k_ hk_)⟩)) (below_size zq24))
  have n2_ := Aside0.mk (blk_below (zq0 BK278.out) hb)
  have n3_ := Aside0.mk (below_step zq24 hb)
  clear HO282
  clear BK278
  clear HB
  have HO282 := n0_
  have HO285 := n1_
  have BK278 := n2_
  have HB := n3_
  clear n0_ n1_ n2_ n3_
  (try clear hb)
  (try clear hb2)
  (try clear hk)
  (try clear hi)
  (try clear ho0)
  refine hK.out _ _ ⟨(blk_cell BK278.out 0).trans rfl, (blk_cell BK278.out 1).trans rfl, (blk_cell BK278.out 2).trans rfl⟩ (fun hHeld => ?_)
  clear hK K
  refine norm_ (a' := ?_) ?_ ?_
  rotate_left
  ·show Act.put _ (some 23) _ = _
   simp only [Act.put, List.setIfInBounds_toArray, List.set_cons_zero, List.set_cons_succ, i64_w, i32_w]
   rfl
  refine one_ (i := 8) (N := some 26) #[true, true, true, true, true, true, true, true, true, false, false, false] rfl rfl (one_of HT_.out zq22) zq56 (fun K hK => ?_)
  refine goes_ Try.func46 zq22 rfl #[.agg #[.int .i64 a0_0, .slice A0_1 l0_1.length c0_1, .slice A0_2 l0_2.length c0_2], .slice A1 l1.length c1, .int .u8 0] zq58 rfl rfl zq4 ?_
  with_reducible refine (culletref07_lots.calls k a0_0 _ _ l0_1 _ _ l0_2 _ _ l1 0 t286 _ ?side1 ?side2 ?side3 ?side4 ?side5 ?side6 A7.out).mono ?_
  (case side1 => exact zq5)
  (case side2 => exact HC0_1.out)
  (case side3 => exact zq6)
  (case side4 => exact HC0_2.out)
  (case side5 => exact zq12)
  (case side6 => exact HC1.out)
  rintro e w17 ⟨v287, rfl, ho0, hb⟩
  refine ⟨_, rfl, ?_⟩
  have n0_ := Aside0.mk (Kd.V_below (zq2 HO282.out) hb)
  have n1_ := Aside0.mk (Kd.V_below (zq2 HO285.out) hb)
  have n2_ := Aside0.mk (Kd.V_lower (Kd.V_mono (ok' := fun k_ => (w.heap.size ≤ k_) ∧ k_ ≠ gb278) ho0 (fun k_ hk_ => ⟨(Nat.le_trans (below_size zq24) hk_), (Kd.freshB (zq0 BK278.out) k_ hk_)⟩)) (below_size zq24))
  have n3_ := Aside0.mk (blk_below (zq0 BK278.out) hb)
  have n4_ := Aside0.mk (below_step zq24 hb)
  clear HO282
  clear HO285
  clear BK278
  clear HB
  have HO282 := n0_
  have HO285 := n1_
  have HO288 := n2_
  have BK278 := n3_
  have HB := n4_
  clear n0_ n1_ n2_ n3_ n4_
  (try clear hb)
  (try clear hb2)
  (try clear hk)
  (try clear hi)
  (try clear ho0)
  refine hK.out _ _ ⟨(blk_cell BK278.out 0).trans rfl, (blk_cell BK278.out 1).trans rfl, (blk_cell BK278.out 2).trans rfl⟩ (fun hHeld => ?_)
  clear hK K
  refine norm_ (a' := ?_) ?_ ?_
  rotate_left
  ·show Act.put _ (some 26) _ = _
   simp only [Act.put, List.setIfInBounds_toArray, List.set_cons_zero, List.set_cons_succ, i64_w, i32_w]
   rfl
  refine pure_ (i := 9) (N := some 9) (v := ?_) (a' := ?_) #[true, true, true, true, true, true, true, true, true, true, false, false] rfl rfl (any_of HT_.out zq22) (fun _ _ _ h => h) (Or.inl ⟨zq58, ?_⟩) ?_ ?_
  rotate_left
  exact zpw
  rotate_left
  exact zpa
  refine pure_ (i := 10) (N := some 10) (v := ?_) (a' := ?_) #[true, true, true, true, true, true, true, true, true, true, true, false] rfl rfl (any_of HT_.out zq22) (fun _ _ _ h => h) (Or.inl ⟨zq58, ?_⟩) ?_ ?_
  rotate_left
  exact zpw
  rotate_left
  exact zpa
  refine pure_ (i := 11) (N := some 11) (v := ?_) (a' := ?_) #[true, true, true, true, true, true, true, true, true, true, true, true] rfl rfl (any_of HT_.out zq22) (fun _ _ _ h => h) (Or.inl ⟨zq58, ?_⟩) ?_ ?_
  rotate_left
  exact zpw
  rotate_left
  exact zpa
  refine done_ (done_of HT_.out zq22) ?_
  obtain ⟨Ao18, co18, eo18⟩ := Kd.V_slice HO288.out
  subst eo18
  obtain ⟨Ao19, co19, eo19⟩ := Kd.V_slice HO285.out
  subst eo19
  try go_wp2_with (first | ((with_reducible refine gate_callee (f := 47) rfl ?_); refine goesL_ (some 29) rfl rfl Try.func47 zq22 rfl #[.slice Ao18 t286.length co18, .slice Ao19 t283.length co19] rfl zq4 ?_; (with_reducible refine (culletref07_without.calls k _ _ t286 _ _ t283 t289 _ ?side1 ?side2 ?side3 ?side4 A8.out).mono ?_); (case side1 => repeat (first | exact (Kd.V_reads' HO288.out).2.2 | (with_reducible refine Kd.C_alloc ?_ _) | (with_reducible refine Kd.C_drewN ?_ _) | (with_reducible refine Kd.C_drew ?_))); (case side2 => exact (Kd.V_reads' HO288.out).2.1); (case side3 => exact zq124); (case side4 => exact (Kd.V_reads' HO285.out).2.1); rintro e w20 ⟨v290, rfl, ho0, hb⟩; refine ⟨_, rfl, ?_⟩; have n_ := as6 (Kd.V_elder' (zq2 HO282.out) (Kd.R_base ho0) hb) (Kd.V_elder' (zq2 HO285.out) (Kd.R_base ho0) hb) (Kd.V_elder' (zq2 HO288.out) (Kd.R_base ho0) hb) (Kd.R_lower (Kd.R_newM (M := fun k_ => (w.heap.size ≤ k_)) ho0 (below_size zq24) (fun k_ h_ => h_)) (below_size zq24)) (blk_below (zq0 BK278.out) hb) (below_step zq24 hb); clear HO282 HO285 HO288 BK278 HB; obtain ⟨HO282, HO285, HO288, HO291, BK278, HB⟩ := n_; (try clear hb); (try clear hb2); (try clear hk); (try clear hi); (try clear ho0); obtain ⟨Ao21, co21, eo21⟩ := Kd.V_slice HO282.out; subst eo21) | ((with_reducible refine gate_callee (f := 47) rfl ?_); refine goesL_ (some 32) rfl rfl Try.func47 zq22 rfl #[.slice Ao21 t280.length co21, .slice Ao19 t283.length co19] rfl zq4 ?_; (with_reducible refine (culletref07_without.calls k _ _ t280 _ _ t283 t292 _ ?side1 ?side2 ?side3 ?side4 A9.out).mono ?_); (case side1 => repeat (first | exact (Kd.V_reads' HO282.out).2.2 | (with_reducible refine Kd.C_alloc ?_ _) | (with_reducible refine Kd.C_drewN ?_ _) | (with_reducible refine Kd.C_drew ?_))); (case side2 => exact (Kd.V_reads' HO282.out).2.1); (case side3 => exact zq124); (case side4 => exact (Kd.V_reads' HO285.out).2.1); rintro e w22 ⟨v293, rfl, ho0, hb⟩; refine ⟨_, rfl, ?_⟩; have n_ := as7 (Kd.V_elder' (zq2 HO282.out) (Kd.R_base ho0) hb) (Kd.V_elder' (zq2 HO285.out) (Kd.R_base ho0) hb) (Kd.V_elder' (zq2 HO288.out) (Kd.R_base ho0) hb) (Kd.R_elder' (zq1 HO291.out) (Kd.R_base ho0) hb) (Kd.R_lower (Kd.R_new' (Kd.R_newM (M := fun k_ => (w.heap.size ≤ k_)) ho0 (below_size zq24) (fun k_ h_ => h_)) (Kd.R_lt (zq1 HO291.out))) (below_size zq24)) (blk_below (zq0 BK278.out) hb) (below_step zq24 hb); clear HO282 HO285 HO288 HO291 BK278 HB; obtain ⟨HO282, HO285, HO288, HO291, HO294, BK278, HB⟩ := n_; (try clear hb); (try clear hb2); (try clear hk); (try clear hi); (try clear ho0); obtain ⟨Ao23, co23, eo23⟩ := Kd.R_slice HO294.out; subst eo23; obtain ⟨Ao24, co24, eo24⟩ := Kd.R_slice HO291.out; subst eo24) | ((with_reducible refine gate_callee (f := 47) rfl ?_); refine goesL_ (some 34) rfl rfl Try.func47 zq22 rfl #[.slice Ao23 t292.length co23, .slice Ao24 t289.length co24] rfl zq4 ?_; (with_reducible refine (culletref07_without.calls k _ _ t292 _ _ t289 t295 _ ?side1 ?side2 ?side3 ?side4 A10.out).mono ?_); (case side1 => repeat (first | exact (Kd.R_reads' HO294.out).2.2 | (with_reducible refine Kd.C_alloc ?_ _) | (with_reducible refine Kd.C_drewN ?_ _) | (with_reducible refine Kd.C_drew ?_))); (case side2 => exact (Kd.R_reads' HO294.out).2.1); (case side3 => repeat (first | exact (Kd.R_reads' HO291.out).2.2 | (with_reducible refine Kd.C_alloc ?_ _) | (with_reducible refine Kd.C_drewN ?_ _) | (with_reducible refine Kd.C_drew ?_))); (case side4 => exact (Kd.R_reads' HO291.out).2.1); rintro e w25 ⟨v296, rfl, ho0, hb⟩; refine ⟨_, rfl, ?_⟩; have n_ := as8 (Kd.V_elder' (zq2 HO282.out) (Kd.R_base ho0) hb) (Kd.V_elder' (zq2 HO285.out) (Kd.R_base ho0) hb) (Kd.V_elder' (zq2 HO288.out) (Kd.R_base ho0) hb) (Kd.R_elder' (zq1 HO291.out) (Kd.R_base ho0) hb) (Kd.R_elder' (zq1 HO294.out) (Kd.R_base ho0) hb) (Kd.R_lower (Kd.R_new' (Kd.R_new' (Kd.R_newM (M := fun k_ => (w.heap.size ≤ k_)) ho0 (below_size zq24) (fun k_ h_ => h_)) (Kd.R_lt (zq1 HO291.out))) (Kd.R_lt (zq1 HO294.out))) (below_size zq24)) (blk_below (zq0 BK278.out) hb) (below_step zq24 hb); clear HO282 HO285 HO288 HO291 HO294 BK278 HB; obtain ⟨HO282, HO285, HO288, HO291, HO294, HO297, BK278, HB⟩ := n_; (try clear hb); (try clear hb2); (try clear hk); (try clear hi); (try clear ho0)))
  refine bodyPost_ret (results_list (rs := [.tmp 4, .tmp 5, .tmp 6, .tmp 7]) rfl zq63 (.tmp (.tmp (.tmp (.tmp .nil))))) rfl ?_
  exact ⟨_, _, _, zq9, by (with_reducible repeat (first | apply Kd.R_alloc | apply Kd.R_drewN | apply Kd.R_drew)); exact Kd.R_mono HO297.out (fun _ hk => ⟨hk.1.1.1, hk.1.2⟩), by (with_reducible repeat (first | apply Kd.V_alloc | apply Kd.V_drewN | apply Kd.V_drew)); exact Kd.V_mono HO285.out (fun _ hk => ⟨hk.1.1.1.1, ⟨hk.2, hk.1.1.2⟩⟩), by (with_reducible repeat (first | apply Kd.R_alloc | apply Kd.R_drewN | apply Kd.R_drew)); exact Kd.R_mono HO291.out (fun _ hk => ⟨hk.1.1.1, hk.2⟩), zq24⟩
 ·rw [if_neg c4] at H
  have c4b0 : (t279 == 0) = false := beq_eq_false_iff_ne.mpr c4
  have c4b1 : (t279 != 0) = true := bne_iff_ne.mpr c4
  simp only [Option.some.injEq, Prod.mk.injEq] at H
  obtain ⟨rfl, rfl, rfl, rfl⟩ := H
  go_enter Try.func18, Try.ntmps18
  go_wp2_with (first | ((with_reducible refine gate_dst (N := 2) rfl ?_); refine box_event ?hg (N := 2) ?hd (cs := #[.int .i64 a0_0, .slice A0_1 l0_1.length c0_1, .slice A0_2 l0_2.length c0_2]) (t := 25) ?hr ?_; (case hd => rfl); (case hg => rfl); (case hr => exact zq11); intro gb278 hg w26 hbox hb; have n_ := as4 (below_step zq3 hb) (hbox) ((zq31 : w.heap.size ≤ gb278)) ((zq31 : w.heap.size ≤ gb278)); clear HB hb hbox hg; obtain ⟨HB, BK278, GW278, GE278⟩ := n_; obtain ⟨hcz27_0, hcz27_1, hcz27_2, hfz27_0, hfz27_1, hfz27_2⟩ := bcs3 BK278.out) | ((with_reducible refine gate_callee (f := 34) rfl ?_); refine goesL_ (some 14) rfl rfl Try.func34 zq22 rfl #[.agg #[.int .i64 a0_0, .slice A0_1 l0_1.length c0_1, .slice A0_2 l0_2.length c0_2], .slice A1 l1.length c1] rfl zq4 ?_; (with_reducible refine (culletref07_CheckLog.calls k a0_0 _ _ l0_1 _ _ l0_2 _ _ l1 t279 _ ?side1 ?side2 ?side3 ?side4 ?side5 ?side6 A3.out).mono ?_); (case side1 => exact zq5); (case side2 => exact HC0_1.out); (case side3 => exact zq6); (case side4 => exact HC0_2.out); (case side5 => exact zq12); (case side6 => exact HC1.out); rintro e w28 ⟨rfl, hb⟩; refine ⟨_, rfl, ?_⟩; have n_ := as2 (blk_below (zq0 BK278.out) hb) (below_step zq24 hb); clear BK278 HB; obtain ⟨BK278, HB⟩ := n_; (try clear hb); (try clear hb2); (try clear hk); (try clear hi)))
  refine bodyPost_ret (results_list (rs := [.tmp 4, .tmp 5, .tmp 6, .tmp 7]) rfl zq63 (.tmp (.tmp (.tmp (.tmp .nil))))) rfl ?_
  exact ⟨_, _, _, zq9, zq66, Kd.V_nil _ _ _ _ _, zq66, zq24⟩
def inspect_within.f (a0 : Int) (a1 : Int) (a2 : Int) : Option (Bool) := if a0 ≥ a1 then (some (decide (a0 ≤ a2))) else (some false)
set_option maxHeartbeats 8000000 in
set_option maxRecDepth 100000 in
theorem inspect_within.calls (a0 : Int) (a1 : Int) (a2 : Int) (r : Bool) (w : World) (h : inspect_within.f a0 a1 a2 = some r) :
  Calls Try.prog 36 #[.int .i64 a0, .int .i64 a1, .int .i64 a2] w fun e w' => e = .returned (.bool r) ∧ Drawn0 w w' := by
 have H : (if a0 ≥ a1 then (some (decide (a0 ≤ a2))) else (some false)) = some r := h
 clear h
 by_cases c4 : a0 ≥ a1
 ·rw [if_pos c4] at H
  have c4b0 : decide (a1 ≤ a0) = true := decide_eq_true c4
  clear c4
  obtain rfl := Option.some.inj H
  go_enter Try.func36, Try.ntmps36
  go_wp2
  go_ret
  exact ⟨zq10, zq32⟩
 ·rw [if_neg c4] at H
  have c4b0 : decide (a1 ≤ a0) = false := decide_eq_false c4
  clear c4
  obtain rfl := Option.some.inj H
  go_enter Try.func36, Try.ntmps36
  go_wp2
  go_ret
  exact ⟨zq10, zq32⟩
end Go.Proofs.Ytbpebehbfpgjbaa.P
end
