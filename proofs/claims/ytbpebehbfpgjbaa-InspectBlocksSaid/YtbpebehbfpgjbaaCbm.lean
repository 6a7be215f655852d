/- InspectBlocks, as the seat states it: for every line of inspection, every log and every class the statement's function returns true. No condition beyond the given row's own. -/
import Derived.Test.YtbpebehbfpgjbaaRows
import Derived.WalkKit
import Derived.ProofKit
import Derived.OpenShut
import Derived.ShutString
import Derived.ChangeOld
import Derived.Below
import Derived.SizedLaws
import Derived.Test.YtbpebehbfpgjbaaCbb
import Derived.Test.YtbpebehbfpgjbaaCbc
import Derived.Test.YtbpebehbfpgjbaaCbe
import Derived.Test.YtbpebehbfpgjbaaCbf
import Derived.Test.YtbpebehbfpgjbaaCbg
import Derived.Test.YtbpebehbfpgjbaaCbk
import Derived.Test.YtbpebehbfpgjbaaCbl
section
namespace Go.Proofs.Ytbpebehbfpgjbaa.P
open Go.RowKit Go.Proofs.YtbpebehbfpgjbaaW.PrintWords Go.Proofs.YtbpebehbfpgjbaaW.PrintLast Go.Proofs.YtbpebehbfpgjbaaW.PrintMore
set_option linter.unusedVariables false
set_option linter.unusedSimpArgs false
open GM
theorem R_keep3' {α : Type} {d : Kd α} {e base : Nat} {Q : Nat → Prop} {W w1 : World} {v v1 u : Value} {xs : List α} (h : d.R e W base (fun k => Q k ∧ some k ≠ v.ownBlock) u xs) (hg : W.grownBy w1 v.ownBlock) (hat : v1.ownBlock = v.ownBlock ∨ ∃ b, v1.ownBlock = some b ∧ W.heap.size ≤ b) : d.R e w1 base (fun k => Q k ∧ some k ≠ v1.ownBlock) u xs :=
 Kd.R_mono (R_keep3 (Kd.R_mono h (fun k hk => And.intro hk.2 hk.1)) hg hat) (fun k hk => ⟨hk.2, hk.1⟩)
theorem lotsP_range {every : Int} {fl : List S58} {st : List S56} {l : List S45} (h : Valid every fl st l) : ∀ i n, n ∈ lotsP l i → 0 ≤ n ∧ n ≤ 1000000
 | 0, n, hn => by simp [lotsP] at hn
 | i + 1, n, hn => by
  unfold lotsP at hn
  split at hn
  ·rename_i hk
   rcases (mem_putS _ _ _).1 hn with rfl | hn
   ·refine h.lot i ?_
    unfold keptB at hk
    simp only [Bool.and_eq_true, beq_iff_eq] at hk
    exact hk.1
   ·exact lotsP_range h i n hn
  ·exact lotsP_range h i n hn
theorem take_filter (p : Int → Bool) (l : List Int) (i : Nat) (h : i < l.length) : (l.take (i + 1)).filter p = if p (rd l i) = true then (l.take i).filter p ++ [rd l i] else (l.take i).filter p := by
 have hr : rd l (i : Int) = l[i] := by simp [rd, h]
 rw [List.take_succ_eq_append_getElem h, List.filter_append, hr]
 by_cases hp : p l[i] = true <;> simp [hp]
set_option maxHeartbeats 8000000 in
set_option maxRecDepth 100000 in
theorem inspect_Lots.calls (a0_0 : Int) (A0_1 : Option Addr) (c0_1 : Nat) (l0_1 : List S58) (A0_2 : Option Addr) (c0_2 : Nat) (l0_2 : List S56) (A1 : Option Addr) (c1 : Nat) (l1 : List S45) (r1 r2 r3 : List Int) (r4 : Int) (w : World)
  (hr0_1 : Kd.C k58 w A0_1 l0_1.length l0_1) (hc0_1 : l0_1.length ≤ c0_1) (hr0_2 : Kd.C k56 w A0_2 l0_2.length l0_2) (hc0_2 : l0_2.length ≤ c0_2) (hr1 : Kd.C k45 w A1 l1.length l1) (hc1 : l1.length ≤ c1) (h : inspect_Lots.f a0_0 l0_1 l0_2 l1 = some (r1, r2, r3, r4)) :
  Calls Try.prog 17 #[.agg #[.int .i64 a0_0, .slice A0_1 l0_1.length c0_1, .slice A0_2 l0_2.length c0_2], .slice A1 l1.length c1] w fun e w' =>
   ∃ v0_ v1_ v2_ : Value, e = .returned (.tuple #[v0_, v1_, v2_, .int .i64 r4]) ∧ Kd.R (Kd.int .i64) 3 w' w.heap.size (fun k_ => some k_ ≠ (v1_ : Value).ownBlock ∧ some k_ ≠ (v2_ : Value).ownBlock) v0_ r1 ∧ Kd.R (Kd.int .i64) 3 w' w.heap.size (fun k_ => some k_ ≠ (v0_ : Value).ownBlock ∧ some k_ ≠ (v2_ : Value).ownBlock) v1_ r2 ∧ Kd.R (Kd.int .i64) 3 w' w.heap.size (fun k_ => some k_ ≠ (v0_ : Value).ownBlock ∧ some k_ ≠ (v1_ : Value).ownBlock) v2_ r3 ∧ Below w.heap.size w w' := by
 have hj : lotsF a0_0 l0_1 l0_2 l1 = (r1, r2, r3, r4) := Option.some.inj h
 clear h
 have hb1 := (Below.refl w.heap.size w).alloc (Nat.le_refl _) (.cells #[.int .i64 a0_0, .slice A0_1 l0_1.length c0_1, .slice A0_2 l0_2.length c0_2] 25)
 have hlog := checklog_plain a0_0 A0_1 c0_1 l0_1 A0_2 c0_2 l0_2 A1 c1 l1 w hr0_1 hc0_1 hr0_2 hc0_2 hr1 hc1 _ hb1
 have HB1 := Aside0.mk hb1
 have HC1 := Aside0.mk (blk_new w (.cells #[.int .i64 a0_0, .slice A0_1 l0_1.length c0_1, .slice A0_2 l0_2.length c0_2] 25))
 clear hb1
 unfold lotsF at hj
 by_cases h0 : logS a0_0 l0_1 l0_2 l1 = 0
 ·rw [if_neg (fun hh => hh h0)] at hj
  obtain ⟨e1, e2, e3, rfl⟩ : (lotsP l1 l1.length).filter (fun m => lotState a0_0 l0_1 l0_2 l1 m == 2) = r1 ∧ (lotsP l1 l1.length).filter (fun m => lotState a0_0 l0_1 l0_2 l1 m == 3) = r2 ∧ (lotsP l1 l1.length).filter (fun m => !(lotState a0_0 l0_1 l0_2 l1 m == 2) && !(lotState a0_0 l0_1 l0_2 l1 m == 3)) = r3 ∧ 0 = r4 := by simpa only [Prod.mk.injEq] using hj
  have HE := Aside0.mk (And.intro e1 (And.intro e2 e3))
  have hv := logS_valid h0
  have hlots := fun (W : World) (hW : Below w.heap.size w W) => inspect_lots.calls a0_0 A0_1 c0_1 l0_1 A0_2 c0_2 l0_2 A1 c1 l1 W (Kd.C_below hr0_1 hW) hc0_1 (Kd.C_below hr0_2 hW) hc0_2 (Kd.C_below hr1 hW) hv
  rw [h0] at hlog
  have HNL := Aside0.mk (show (lotsP l1 l1.length).length ≤ 512 from Nat.le_trans (lotsP_len l1 _) hv.len)
  have HLEN := Aside0.mk hv.len
  have HV := Aside0.mk hv
  clear hr0_1 hr0_2 hr1 hv h0 hj e1 e2 e3
  go_enter Try.func17, Try.ntmps17
  go_wp2_with (first
   | (go_at_call 19; (with_reducible refine hlog.mono ?_); rintro e w1 ⟨rfl, hb⟩; have HB2 := Aside0.mk (below_step HB1.out hb); have HC2 := Aside0.mk (blk_below HC1.out hb); have hc00 : w1.cell? ⟨w.heap.size, 0, none⟩ = some (.int .i64 a0_0) := (blk_cell HC2.out 0).trans rfl; have hc01 : w1.cell? ⟨w.heap.size, 1, none⟩ = some (.slice A0_1 l0_1.length c0_1) := (blk_cell HC2.out 1).trans rfl; have hc02 : w1.cell? ⟨w.heap.size, 2, none⟩ = some (.slice A0_2 l0_2.length c0_2) := (blk_cell HC2.out 2).trans rfl; clear hb)
   | (go_at_call 43; (with_reducible refine (hlots _ HB2.out).mono ?_); rintro e w3 ⟨mv, base, rfl, hm, hb⟩; obtain ⟨mr, hmr⟩ : ∃ r, mv = .map r := hm.elim (fun h => ⟨none, h.1⟩) (fun ⟨b, h, _⟩ => ⟨some b, h⟩); subst hmr; have HB3 := Aside0.mk ((below_step HB2.out hb).alloc (below_step HB2.out hb).size (.cells #[.map mr] 90)); have HSH := Aside0.mk (blk_new w3 (.cells #[.map mr] 90)); have HM := Aside0.mk (show Value.map mr = .map none ∧ shelfP a0_0 l0_1 l0_2 l1 l1.length = (fun _ => []) ∨ ∃ b, Value.map mr = .map (some b) ∧ Groups Try.prog 3 46 .u8 (w3.alloc (.cells #[.map mr] 90)) base b (shelfP a0_0 l0_1 l0_2 l1 l1.length) from hm.imp id (fun ⟨b, h1, h2⟩ => ⟨b, h1, h2.below ((Below.refl _ w3).alloc (Nat.le_refl _) _)⟩)); clear hb hm)
   | (go_at_call 44; (with_reducible refine (inspect_numbers.calls w3.heap.size (.map mr) base _ (lotsP l1 l1.length) _ HSH.out HM.out HNL.out (fun key hk => (shelfP_key a0_0 l0_1 l0_2 l1 key _).1 hk)).mono ?_); rintro e wn ⟨vn, zn, rfl, ho, hzl, hzs, hzm, hb⟩; have HZ := Aside0.mk (sorted_ext hzs (lotsP_sorted l1 l1.length) (fun x => (hzm x).trans ((shelfP_key a0_0 l0_1 l0_2 l1 (.int .i64 x) _).trans ⟨fun ⟨m, h1, h2⟩ => by cases h2; exact h1, fun h1 => ⟨x, h1, rfl⟩⟩))); have HO0 := Aside0.mk ho; have HBN := Aside0.mk (below_step HB3.out hb); have HSN := Aside0.mk (blk_below HSH.out hb); have HMN := Aside0.mk (show Value.map mr = .map none ∧ shelfP a0_0 l0_1 l0_2 l1 l1.length = (fun _ => []) ∨ ∃ b, Value.map mr = .map (some b) ∧ Groups Try.prog 3 46 .u8 wn base b (shelfP a0_0 l0_1 l0_2 l1 l1.length) from HM.out.imp id (fun ⟨b, h1, h2⟩ => ⟨b, h1, h2.below hb⟩)); clear ho hzl hzs hzm hb; obtain ⟨An, cn, he, _, hCn⟩ := Kd.R_reads (Kd.R_of_own (h1 := fun _ => rfl) (ok := fun _ => True) HO0.out (fun _ _ => trivial)); subst he; have HCN := Aside0.mk (show Kd.C (Kd.int .i64) wn An zn.length zn from hCn); clear hCn))
  have hz := HZ.out
  subst hz
  clear HZ hc00 hc01 hc02
  go_loopg [4, 5, 6, 23] (lotsP l1 l1.length).length (fun gg s4 s5 s6 s23 wr => ∃ (i : Nat) (v4 v5 v6 : Value), s23 = .int .i64 (i : Int) ∧ v4 = s4 ∧ v5 = s5 ∧ v6 = s6 ∧ Aside0 (i ≤ (lotsP l1 l1.length).length ∧ (lotsP l1 l1.length).length - i ≤ gg) ∧ Aside0 (Below wn.heap.size wn wr) ∧ Aside0 (Kd.R (Kd.int .i64) 3 wr wn.heap.size (fun k_ => some k_ ≠ (v5 : Value).ownBlock ∧ some k_ ≠ (v6 : Value).ownBlock) v4 (((lotsP l1 l1.length).take i).filter (fun m => lotState a0_0 l0_1 l0_2 l1 m == 2))) ∧ Aside0 (Kd.R (Kd.int .i64) 3 wr wn.heap.size (fun k_ => some k_ ≠ (v4 : Value).ownBlock ∧ some k_ ≠ (v6 : Value).ownBlock) v5 (((lotsP l1 l1.length).take i).filter (fun m => lotState a0_0 l0_1 l0_2 l1 m == 3))) ∧ Aside0 (Kd.R (Kd.int .i64) 3 wr wn.heap.size (fun k_ => some k_ ≠ (v4 : Value).ownBlock ∧ some k_ ≠ (v5 : Value).ownBlock) v6 (((lotsP l1 l1.length).take i).filter (fun m => !(lotState a0_0 l0_1 l0_2 l1 m == 2) && !(lotState a0_0 l0_1 l0_2 l1 m == 3)))))
  case atStart => exact ⟨0, _, _, _, rfl, rfl, rfl, rfl, ⟨zq17, zq17⟩, ⟨Below.refl _ _⟩, ⟨Kd.R_nil _ _ _ _ _⟩, ⟨Kd.R_nil _ _ _ _ _⟩, ⟨Kd.R_nil _ _ _ _ _⟩⟩
  case round =>
   obtain ⟨i, v4, v5, v6, rfl, rfl, rfl, rfl, hi, HB, H4, H5, H6⟩ := hrel
   by_cases hlt : i < (lotsP l1 l1.length).length
   ·have hlt' : (i : Int) < ((lotsP l1 l1.length).length : Int) := by omega
    have hb0 : decide (i < (lotsP l1 l1.length).length) = true := decide_eq_true hlt
    have hq0 : 0 ≤ (i : Int) := by omega
    have hq1 : (i : Int) ≤ 511 := by have := HNL.out; omega
    obtain ⟨ad, cs, rfl, _, hK, hc0⟩ := Kd.C_get (Kd.C_below HCN.out HB.out) (0 : Int) (i : Int) hq0 hlt'
    obtain rfl : cs = [.int .i64 ((lotsP l1 l1.length).getD (i : Int).toNat 0)] := hK
    have hx := hc0 0 _ rfl
    have hgd : (lotsP l1 l1.length).getD (i : Int).toNat 0 = rd (lotsP l1 l1.length) (i : Int) := rfl
    rw [hgd] at hx
    simp only [show (Kd.int .i64).sz = 1 from rfl, Nat.mul_one, Nat.add_zero, Int.toNat_natCast] at hx
    clear hc0 hgd
    have t2 := take_filter (fun m => lotState a0_0 l0_1 l0_2 l1 m == 2) (lotsP l1 l1.length) i hlt
    have t3 := take_filter (fun m => lotState a0_0 l0_1 l0_2 l1 m == 3) (lotsP l1 l1.length) i hlt
    have t6 := take_filter (fun m => !(lotState a0_0 l0_1 l0_2 l1 m == 2) && !(lotState a0_0 l0_1 l0_2 l1 m == 3)) (lotsP l1 l1.length) i hlt
    have hmem : rd (lotsP l1 l1.length) (i : Int) ∈ (lotsP l1 l1.length) := by simp [rd, hlt]
    generalize rd (lotsP l1 l1.length) (i : Int) = n at hx t2 t3 t6 hmem
    have hne := (shelfP_key a0_0 l0_1 l0_2 l1 (.int .i64 n) l1.length).2 ⟨n, hmem, rfl⟩
    have hrg := lotsP_range HV.out l1.length n hmem
    rcases HMN.out with ⟨_, hf⟩ | ⟨b, hbm, hG⟩
    ·rw [hf] at hne
     exact absurd rfl hne
    ·cases hbm
     obtain ⟨v0, hlook, hown⟩ := hG.lookup keyed3 Try.underlying88 zero74 (key3 n (small_wf n zq17 zq17))
     have hl0 := hlook wr (HB.out.block b hG.lt)
     obtain ⟨A0, c0, he, _, hC0⟩ := Kd.R_reads (Kd.R_of_own (h1 := fun _ => rfl) (ok := fun _ => True) hown (fun _ _ => trivial))
     subst he
     have hst := inspect_state.calls A0 c0 (shelfP a0_0 l0_1 l0_2 l1 l1.length (.int .i64 n)) wr (Kd.C_below hC0 HB.out) (Nat.le_trans (shelfP_len a0_0 l0_1 l0_2 l1 _ _) HLEN.out)
     have hls : stateS (shelfP a0_0 l0_1 l0_2 l1 l1.length (.int .i64 n)) = lotState a0_0 l0_1 l0_2 l1 n := rfl
     rw [hls] at hst
     have hsc := (blk_cell (blk_below HSN.out HB.out) 0).trans (rfl : _ = some (Value.map (some b)))
     have HLT := Aside0.mk (show i < 512 by have := HNL.out; omega)
     have L4 := Aside0.mk (show ((lotsP l1 l1.length).take i |>.filter (fun m => lotState a0_0 l0_1 l0_2 l1 m == 2)).length ≤ 512 from Nat.le_trans (List.length_filter_le _ _) (by rw [List.length_take]; have := HNL.out; omega))
     have L5 := Aside0.mk (show ((lotsP l1 l1.length).take i |>.filter (fun m => lotState a0_0 l0_1 l0_2 l1 m == 3)).length ≤ 512 from Nat.le_trans (List.length_filter_le _ _) (by rw [List.length_take]; have := HNL.out; omega))
     have L6 := Aside0.mk (show ((lotsP l1 l1.length).take i |>.filter (fun m => !(lotState a0_0 l0_1 l0_2 l1 m == 2) && !(lotState a0_0 l0_1 l0_2 l1 m == 3))).length ≤ 512 from Nat.le_trans (List.length_filter_le _ _) (by rw [List.length_take]; have := HNL.out; omega))
     generalize lotState a0_0 l0_1 l0_2 l1 n = t at hst t2 t3 t6
     have T2 := Aside0.mk t2
     have T3 := Aside0.mk t3
     have T6 := Aside0.mk t6
     clear t2 t3 t6 hlook hown hC0 hne hrg hmem hls hG
     by_cases h2 : t = 2
     ·subst h2
      go_wp2_with (first | (go_at_call 45; (with_reducible refine hst.mono ?_); rintro e ws ⟨rfl, hws⟩; replace hws := hws.symm; subst hws) | ((with_reducible refine gate_dst (N := 41) rfl ?_); go_must (refine Kd.R_append (Kd.int .i64) (w0 := wn) (W := wr) wn.heap.size rfl (.tmp 38) (.tmp 40) 29 3 (.int .i64 0) 8 rfl Try.underlying29 info3 rfl zq56 zq17 v4 (((lotsP l1 l1.length).take i).filter (fun m => lotState a0_0 l0_1 l0_2 l1 m == 2)) n [.int .i64 n] (fun k_ => some k_ ≠ (v5 : Value).ownBlock ∧ some k_ ≠ (v6 : Value).ownBlock) (fun _ => False) rfl rfl rfl (fun _ hk => hk.elim) ?aF H4.out HB.out HB.out.size ?aL ?_); (case aL => have := L4.out; omega); (case aF => exact fun k hk => ⟨fun e => by obtain ⟨_, ho⟩ := Kd.R_own H5.out; have := own_lt ho k e.symm; omega, fun e => by obtain ⟨_, ho⟩ := Kd.R_own H6.out; have := own_lt ho k e.symm; omega⟩); intro v1 wc ho hb hg hat; have HX := Aside0.mk ho; have HBc := Aside0.mk hb; have HY := Aside0.mk (R_keep3 H5.out hg hat); have HZ := Aside0.mk (R_keep3 H6.out hg hat); clear ho hb hg hat))
      go_roundg ((lotsP l1 l1.length).length - (i + 1))
      case measure => have := hi.out; omega
      case rel => exact ⟨i + 1, v1, v5, v6, zq136, rfl, rfl, rfl, ⟨zq17⟩, HBc, ⟨by rw [T2.out]; exact HX.out⟩, ⟨by rw [T3.out]; exact HY.out⟩, ⟨by rw [T6.out]; exact HZ.out⟩⟩
     ·by_cases h3 : t = 3
      ·subst h3
       clear h2
       go_wp2_with (first | (go_at_call 45; (with_reducible refine hst.mono ?_); rintro e ws ⟨rfl, hws⟩; replace hws := hws.symm; subst hws) | ((with_reducible refine gate_dst (N := 47) rfl ?_); go_must (refine Kd.R_append (Kd.int .i64) (w0 := wn) (W := wr) wn.heap.size rfl (.tmp 44) (.tmp 46) 29 3 (.int .i64 0) 8 rfl Try.underlying29 info3 rfl zq56 zq17 v5 (((lotsP l1 l1.length).take i).filter (fun m => lotState a0_0 l0_1 l0_2 l1 m == 3)) n [.int .i64 n] (fun k_ => some k_ ≠ (v4 : Value).ownBlock ∧ some k_ ≠ (v6 : Value).ownBlock) (fun _ => False) rfl rfl rfl (fun _ hk => hk.elim) ?aF H5.out HB.out HB.out.size ?aL ?_); (case aL => have := L5.out; omega); (case aF => exact fun k hk => ⟨fun e => by obtain ⟨_, ho⟩ := Kd.R_own H4.out; have := own_lt ho k e.symm; omega, fun e => by obtain ⟨_, ho⟩ := Kd.R_own H6.out; have := own_lt ho k e.symm; omega⟩); intro v1 wc ho hb hg hat; have HX := Aside0.mk ho; have HBc := Aside0.mk hb; have HY := Aside0.mk (R_keep3 H4.out hg hat); have HZ := Aside0.mk (R_keep3' H6.out hg hat); clear ho hb hg hat))
       go_roundg ((lotsP l1 l1.length).length - (i + 1))
       case measure => have := hi.out; omega
       case rel => exact ⟨i + 1, v4, v1, v6, zq136, rfl, rfl, rfl, ⟨zq17⟩, HBc, ⟨by rw [T2.out]; exact HY.out⟩, ⟨by rw [T3.out]; exact HX.out⟩, ⟨by rw [T6.out]; exact HZ.out⟩⟩
      ·have hb2 : (t == 2) = false := by simpa using h2
       have hb3 : (t == 3) = false := by simpa using h3
       rw [hb2, hb3] at T6
       rw [hb2] at T2
       rw [hb3] at T3
       clear h2 h3
       go_wp2_with (first | (go_at_call 45; (with_reducible refine hst.mono ?_); rintro e ws ⟨rfl, hws⟩; replace hws := hws.symm; subst hws) | ((with_reducible refine gate_dst (N := 35) rfl ?_); go_must (refine Kd.R_append (Kd.int .i64) (w0 := wn) (W := wr) wn.heap.size rfl (.tmp 32) (.tmp 34) 29 3 (.int .i64 0) 8 rfl Try.underlying29 info3 rfl zq56 zq17 v6 (((lotsP l1 l1.length).take i).filter (fun m => !(lotState a0_0 l0_1 l0_2 l1 m == 2) && !(lotState a0_0 l0_1 l0_2 l1 m == 3))) n [.int .i64 n] (fun k_ => some k_ ≠ (v4 : Value).ownBlock ∧ some k_ ≠ (v5 : Value).ownBlock) (fun _ => False) rfl rfl rfl (fun _ hk => hk.elim) ?aF H6.out HB.out HB.out.size ?aL ?_); (case aL => have := L6.out; omega); (case aF => exact fun k hk => ⟨fun e => by obtain ⟨_, ho⟩ := Kd.R_own H4.out; have := own_lt ho k e.symm; omega, fun e => by obtain ⟨_, ho⟩ := Kd.R_own H5.out; have := own_lt ho k e.symm; omega⟩); intro v1 wc ho hb hg hat; have HX := Aside0.mk ho; have HBc := Aside0.mk hb; have HY := Aside0.mk (R_keep3' H4.out hg hat); have HZ := Aside0.mk (R_keep3' H5.out hg hat); clear ho hb hg hat))
       go_roundg ((lotsP l1 l1.length).length - (i + 1))
       case measure => have := hi.out; omega
       case rel => exact ⟨i + 1, v4, v5, v1, zq136, rfl, rfl, rfl, ⟨zq17⟩, HBc, ⟨by rw [T2.out]; exact HY.out⟩, ⟨by rw [T3.out]; exact HZ.out⟩, ⟨by rw [T6.out]; exact HX.out⟩⟩
   ·have hlen : i = (lotsP l1 l1.length).length := by have := hi.out; omega
    have hb0 : decide (i < (lotsP l1 l1.length).length) = false := decide_eq_false hlt
    have HLN := Aside0.mk hlen
    clear hlen
    go_wp2
    refine bodyPost_ret (results_list (rs := [.tmp 4, .tmp 5, .tmp 6, .tmp 7]) rfl zq63 (.tmp (.tmp (.tmp (.tmp .nil))))) rfl ?_
    have hsz : w.heap.size ≤ wn.heap.size := HBN.out.size
    have q4 := H4.out
    have q5 := H5.out
    have q6 := H6.out
    rw [HLN.out, List.take_length] at q4 q5 q6
    rw [HE.out.1] at q4
    rw [HE.out.2.1] at q5
    rw [HE.out.2.2] at q6
    exact ⟨_, _, _, rfl, Kd.R_lower q4 hsz, Kd.R_lower q5 hsz, Kd.R_lower q6 hsz, HBN.out.trans (HB.out.mono hsz)⟩
 ·rw [if_pos h0] at hj
  obtain ⟨rfl, rfl, rfl, h3⟩ : [] = r1 ∧ [] = r2 ∧ [] = r3 ∧ logS a0_0 l0_1 l0_2 l1 = r4 := by simpa using hj
  rw [h3] at hlog h0
  have hb0 : (r4 == 0) = false := by simpa using h0
  clear hj h3 h0
  go_enter Try.func17, Try.ntmps17
  go_wp2_with (go_at_call 19; (with_reducible refine hlog.mono ?_); rintro e w1 ⟨rfl, hb⟩; have HB2 := Aside0.mk (below_step HB1.out hb); clear hb)
  refine bodyPost_ret (results_list (rs := [.tmp 4, .tmp 5, .tmp 6, .tmp 7]) rfl zq63 (.tmp (.tmp (.tmp (.tmp .nil))))) rfl ?_
  exact ⟨_, _, _, rfl, Kd.R_nil _ _ _ _ _, Kd.R_nil _ _ _ _ _, Kd.R_nil _ _ _ _ _, HB2.out⟩
end Go.Proofs.Ytbpebehbfpgjbaa.P
end
section
namespace Go.Proofs.Ytbpebehbfpgjbaa.P
open Go.RowKit Go.Proofs.YtbpebehbfpgjbaaW.PrintWords Go.Proofs.YtbpebehbfpgjbaaW.PrintLast Go.Proofs.YtbpebehbfpgjbaaW.PrintMore
attribute [local go_sem] max2_int min2_int max_two min_two max_three min_three max_four min_four
set_option linter.unusedVariables false
set_option linter.unusedSimpArgs false
def culletlaw07_eye.f  : Option (Int × (List (S58)) × (List (S56))) := some (100, (([(⟨(⟨#[99, 114, 97, 99, 107]⟩ : ByteArray), 1⟩ : S58)] : List (S58))), (([(⟨(⟨#[101, 121, 101]⟩ : ByteArray), (([(⟨0, 1, 50⟩ : S68)] : List (S68)))⟩ : S56)] : List (S56))))
set_option maxHeartbeats 8000000 in
set_option maxRecDepth 100000 in
theorem culletlaw07_eye.calls  (r1 : Int) (r2 : List (S58)) (r3 : List (S56)) (w : World) (h : culletlaw07_eye.f  = some (r1, r2, r3)) :
  Calls Try.prog 30 #[] w fun e w' => ∃ v1_ v2_ : Value, e = .returned (.agg #[.int .i64 r1, v1_, v2_]) ∧ Kd.R k58 58 w' w.heap.size (fun k_ => (w.heap.size ≤ k_)) v1_ r2 ∧ Kd.N k56 56 w' w.heap.size (fun k_ => (w.heap.size ≤ k_) ∧ some k_ ≠ (v1_ : Value).ownBlock) v2_ r3 ∧ Below w.heap.size w w' := by
 have hu25 := Try.underlying25
 have hu58 := Try.underlying58
 have hu68 := Try.underlying68
 have hu56 := Try.underlying56
 have HB := Aside0.mk (Below.refl w.heap.size w)
 have H : (some (100, (([(⟨(⟨#[99, 114, 97, 99, 107]⟩ : ByteArray), 1⟩ : S58)] : List (S58))), (([(⟨(⟨#[101, 121, 101]⟩ : ByteArray), (([(⟨0, 1, 50⟩ : S68)] : List (S68)))⟩ : S56)] : List (S56))))) = some (r1, r2, r3) := h
 clear h
 obtain ⟨y102, hy102⟩ : ∃ y_ : List (S58), y_ = (([(⟨(⟨#[99, 114, 97, 99, 107]⟩ : ByteArray), 1⟩ : S58)] : List (S58))) := ⟨_, rfl⟩
 replace H : (some (100, y102, (([(⟨(⟨#[101, 121, 101]⟩ : ByteArray), (([(⟨0, 1, 50⟩ : S68)] : List (S68)))⟩ : S56)] : List (S56))))) = some (r1, r2, r3) := by first | (rw [hy102]; with_reducible exact H) | (have H2_ := (Option.bind_some _ _).symm.trans H; rw [hy102]; with_reducible exact H2_) | (have H2_ := (Option.bind_some _ _).symm.trans H; with_reducible exact H2_) | with_reducible exact H | (rw [hy102]; exact H) | exact H
 have Ny102 := Aside0.mk hy102
 clear hy102
 obtain ⟨y105, hy105⟩ : ∃ y_ : List (S68), y_ = (([(⟨0, 1, 50⟩ : S68)] : List (S68))) := ⟨_, rfl⟩
 replace H : (some (100, y102, (([(⟨(⟨#[101, 121, 101]⟩ : ByteArray), y105⟩ : S56)] : List (S56))))) = some (r1, r2, r3) := by first | (rw [hy105]; with_reducible exact H) | (have H2_ := (Option.bind_some _ _).symm.trans H; rw [hy105]; with_reducible exact H2_) | (have H2_ := (Option.bind_some _ _).symm.trans H; with_reducible exact H2_) | with_reducible exact H | (rw [hy105]; exact H) | exact H
 have Ny105 := Aside0.mk hy105
 clear hy105
 obtain ⟨y108, hy108⟩ : ∃ y_ : List (S56), y_ = (([(⟨(⟨#[101, 121, 101]⟩ : ByteArray), y105⟩ : S56)] : List (S56))) := ⟨_, rfl⟩
 replace H : (some (100, y102, y108)) = some (r1, r2, r3) := by first | (rw [hy108]; with_reducible exact H) | (have H2_ := (Option.bind_some _ _).symm.trans H; rw [hy108]; with_reducible exact H2_) | (have H2_ := (Option.bind_some _ _).symm.trans H; with_reducible exact H2_) | with_reducible exact H | (rw [hy108]; exact H) | exact H
 have Ny108 := Aside0.mk hy108
 clear hy108
 simp only [Option.some.injEq, Prod.mk.injEq] at H
 obtain ⟨rfl, rfl, rfl⟩ := H
 go_enter Try.func30, Try.ntmps30
 go_wp2_with (first | ((with_reducible refine gate_dst (N := 0) rfl ?_); refine box_event ?hg (N := 0) ?hd (cs := #[.int .i64 0, .slice none 0 0, .slice none 0 0]) (t := 25) ?hr ?_; (case hd => rfl); (case hg => rfl); (case hr => exact zq11); intro gb101 hg w1 hbox hb; have n_ := as4 (below_step zq3 hb) (hbox) ((zq31 : w.heap.size ≤ gb101)) ((zq31 : w.heap.size ≤ gb101)); clear HB hb hbox hg; obtain ⟨HB, BK101, GW101, GE101⟩ := n_) | ((with_reducible refine gate_dst (N := 2) rfl ?_); refine Kd.R_lit k58 _ 58 ?hg (N := 2) ?hd (xs := ([(⟨(⟨#[99, 114, 97, 99, 107]⟩ : ByteArray), 1⟩ : S58)] : List (S58))) (inner := [.string (⟨#[99, 114, 97, 99, 107]⟩ : ByteArray), .int .i64 1]) (ok := fun _ => True) (okp := fun _ => True) ?hr ?hp (fun _ hk => hk) trivial (Below.refl _ _) (Nat.le_refl _) zq63 ?_; (case hd => rfl); (case hg => rfl); (case hr => exact zq11); (case hp => exact (Reps.c2 (show Kd.M k58 _ _ _ (⟨(⟨#[99, 114, 97, 99, 107]⟩ : ByteArray), 1⟩ : S58) [.string (⟨#[99, 114, 97, 99, 107]⟩ : ByteArray), .int .i64 1] from (k58_mkM _ _ _ (⟨(⟨#[99, 114, 97, 99, 107]⟩ : ByteArray), 1⟩ : S58) )) (Reps.none _ _))); intro v103 w2 ho3 hb hg_ hnew_; clear hg_ hnew_; (first | rw [← Ny102.out] at ho3 | (simp only [Int.reduceToNat] at ho3; rw [← Ny102.out] at ho3)); have n_ := as3 (Kd.R_lower (Kd.R_newM (M := fun k_ => (w.heap.size ≤ k_)) ho3 (below_size zq26) (fun k_ h_ => h_)) (below_size zq26)) (blk_below (zq0 BK101.out) hb) (below_step zq26 hb); clear BK101 HB; obtain ⟨HO104, BK101, HB⟩ := n_; clear hb ho3) | ((with_reducible refine gate_dst (N := 4) rfl ?_); refine Kd.R_lit k68 _ 68 ?hg (N := 4) ?hd (xs := ([(⟨0, 1, 50⟩ : S68)] : List (S68))) (inner := [.int .i64 0, .int .i64 1, .int .i64 50]) (ok := fun _ => True) (okp := fun _ => True) ?hr ?hp (fun _ hk => hk) trivial (Below.refl _ _) (Nat.le_refl _) zq63 ?_; (case hd => rfl); (case hg => rfl); (case hr => exact zq11); (case hp => exact (Reps.c3 (show Kd.M k68 _ _ _ (⟨0, 1, 50⟩ : S68) [.int .i64 0, .int .i64 1, .int .i64 50] from (k68_mkM _ _ _ (⟨0, 1, 50⟩ : S68) )) (Reps.none _ _))); intro v106 w4 ho5 hb hg_ hnew_; clear hg_ hnew_; (first | rw [← Ny105.out] at ho5 | (simp only [Int.reduceToNat] at ho5; rw [← Ny105.out] at ho5)); have n_ := as4 (Kd.R_below (zq1 HO104.out) hb) (Kd.R_lower (Kd.R_newM (M := fun k_ => (w.heap.size ≤ k_)) ho5 (below_size zq26) (fun k_ h_ => h_)) (below_size zq26)) (blk_below (zq0 BK101.out) hb) (below_step zq26 hb); clear HO104 BK101 HB; obtain ⟨HO104, HO107, BK101, HB⟩ := n_; clear hb ho5; obtain ⟨Ao6, co6, eo6⟩ := Kd.R_slice HO107.out; subst eo6) | ((with_reducible refine gate_dst (N := 6) rfl ?_); refine Kd.N_lit k56 _ 56 ?hg (N' := 6) ?hd (xs := ([(⟨(⟨#[101, 121, 101]⟩ : ByteArray), y105⟩ : S56)] : List (S56))) (inner := [.string (⟨#[101, 121, 101]⟩ : ByteArray), .slice Ao6 y105.length co6]) (ok := (fun k_ => (w.heap.size ≤ k_) ∧ some k_ ≠ (v103 : Value).ownBlock ∧ k_ ≠ gb101)) (okp := (fun k_ => (w.heap.size ≤ k_) ∧ some k_ ≠ (v103 : Value).ownBlock ∧ k_ ≠ gb101)) ?hr ?hp (fun _ hk => hk) ((show ∀ k_, w4.heap.size ≤ k_ → (fun k_ => (w.heap.size ≤ k_) ∧ some k_ ≠ (v103 : Value).ownBlock ∧ k_ ≠ gb101) k_ from fun k_ hk => ⟨(Nat.le_trans (below_size zq26) hk), Kd.fresh' (Kd.R_lt (zq1 HO104.out)) k_ hk, Kd.freshB (zq0 BK101.out) k_ hk⟩) _ (Nat.le_refl _)) (Below.refl _ _) (Nat.le_refl _) zq63 ?_; (case hd => rfl); (case hg => rfl); (case hr => exact zq11); (case hp => exact (Reps.c2 (show Kd.FK k56 _ _ (⟨(⟨#[101, 121, 101]⟩ : ByteArray), y105⟩ : S56) [.string (⟨#[101, 121, 101]⟩ : ByteArray), .slice Ao6 y105.length co6] from (k56_mkF _ _ (⟨(⟨#[101, 121, 101]⟩ : ByteArray), y105⟩ : S56) (Kd.R_reads' (Kd.R_mono (ok' := (fun k_ => (w.heap.size ≤ k_) ∧ some k_ ≠ (v103 : Value).ownBlock ∧ k_ ≠ gb101)) (Kd.R_types (Kd.R_apart' (HO107.out) (Kd.R_typed HO104.out) zq56) BK101.out zq56) (fun k_ hk => ⟨hk.1.1.1, ⟨hk.1.2, hk.2⟩⟩))).2.1 (Kd.R_F (Kd.R_mono (ok' := (fun k_ => (w.heap.size ≤ k_) ∧ some k_ ≠ (v103 : Value).ownBlock ∧ k_ ≠ gb101)) (Kd.R_types (Kd.R_apart' (HO107.out) (Kd.R_typed HO104.out) zq56) BK101.out zq56) (fun k_ hk => ⟨hk.1.1.1, ⟨hk.1.2, hk.2⟩⟩))))) (Reps.none _ _))); intro v109 w7 ho8 hb hg_ hnew_; clear hg_ hnew_; (first | rw [← Ny108.out] at ho8 | (simp only [Int.reduceToNat] at ho8; rw [← Ny108.out] at ho8)); have n_ := as4 (Kd.R_below (zq1 HO104.out) hb) (Kd.N_lower ho8 (below_size zq26)) (blk_below (zq0 BK101.out) hb) (below_step zq26 hb); clear HO104 BK101 HB HO107; obtain ⟨HO104, HO110, BK101, HB⟩ := n_; clear hb ho8; obtain ⟨Ao9, co9, eo9⟩ := Kd.N_slice HO110.out; subst eo9; obtain ⟨Ao10, co10, eo10⟩ := Kd.R_slice HO104.out; subst eo10; obtain ⟨hcz11_0, hcz11_1, hcz11_2, hfz11_0, hfz11_1, hfz11_2⟩ := bcs3 BK101.out))
 refine bodyPost_ret (results_cell_row rfl _ _ gb101 25 #[.int .i64 100, .slice Ao10 y102.length co10, .slice Ao9 y108.length co9] (0, 0) _ rfl (bch0p BK101.out) Try.underlying25 rfl zq22) rfl ?_
 exact ⟨_, _, zq9, by (with_reducible repeat (first | apply Kd.R_alloc | apply Kd.R_drewN | apply Kd.R_drew)); exact Kd.R_mono (Kd.R_far (p := ⟨gb101, 2, none⟩) (Kd.R_far (p := ⟨gb101, 1, none⟩) (Kd.R_far (p := ⟨gb101, 0, none⟩) (Kd.R_types HO104.out BK101.out zq56) (fun _ hk => hk.2) (.int .i64 100)) (fun _ hk => hk.2) (.slice Ao10 y102.length co10)) (fun _ hk => hk.2) (.slice Ao9 y108.length co9)) (fun _ hk => hk.1.1), by (with_reducible repeat (first | apply Kd.N_alloc | apply Kd.N_drewN | apply Kd.N_drew)); exact Kd.N_mono (Kd.N_far (p := ⟨gb101, 2, none⟩) (Kd.N_far (p := ⟨gb101, 1, none⟩) (Kd.N_far (p := ⟨gb101, 0, none⟩) (Kd.N_mono HO110.out (fun k_ hk => (⟨hk, hk.2.2⟩ : _ ∧ k_ ≠ gb101))) (fun _ hk => hk.2) (.int .i64 100)) (fun _ hk => hk.2) (.slice Ao10 y102.length co10)) (fun _ hk => hk.2) (.slice Ao9 y108.length co9)) (fun _ hk => ⟨hk.1.1, hk.1.2.1⟩), zq26⟩
def culletlaw07_day.f  : Option ((List (S45))) := some (([(⟨10, 2, 0, 0, 0, 0, true⟩ : S45), (⟨20, 1, 7, 0, 0, 0, false⟩ : S45), (⟨60, 2, 0, 0, 0, 0, true⟩ : S45), (⟨70, 1, 8, 0, 0, 0, false⟩ : S45), (⟨90, 2, 0, 0, 0, 0, false⟩ : S45), (⟨95, 1, 9, 0, 0, 0, false⟩ : S45)] : List (S45)))
set_option maxHeartbeats 8000000 in
set_option maxRecDepth 100000 in
theorem culletlaw07_day.calls  (r : List (S45)) (w : World) (h : culletlaw07_day.f  = some r) :
  Calls Try.prog 31 #[] w fun e w' => ∃ v0_ : Value, e = .returned (v0_) ∧ Kd.R k45 45 w' w.heap.size (fun _ => True) v0_ r ∧ Below w.heap.size w w' := by
 have hu45 := Try.underlying45
 have HB := Aside0.mk (Below.refl w.heap.size w)
 have H : (some (([(⟨10, 2, 0, 0, 0, 0, true⟩ : S45), (⟨20, 1, 7, 0, 0, 0, false⟩ : S45), (⟨60, 2, 0, 0, 0, 0, true⟩ : S45), (⟨70, 1, 8, 0, 0, 0, false⟩ : S45), (⟨90, 2, 0, 0, 0, 0, false⟩ : S45), (⟨95, 1, 9, 0, 0, 0, false⟩ : S45)] : List (S45)))) = some r := h
 clear h
 obtain ⟨y111, hy111⟩ : ∃ y_ : List (S45), y_ = (([(⟨10, 2, 0, 0, 0, 0, true⟩ : S45), (⟨20, 1, 7, 0, 0, 0, false⟩ : S45), (⟨60, 2, 0, 0, 0, 0, true⟩ : S45), (⟨70, 1, 8, 0, 0, 0, false⟩ : S45), (⟨90, 2, 0, 0, 0, 0, false⟩ : S45), (⟨95, 1, 9, 0, 0, 0, false⟩ : S45)] : List (S45))) := ⟨_, rfl⟩
 replace H : (some y111) = some r := by first | (rw [hy111]; with_reducible exact H) | (have H2_ := (Option.bind_some _ _).symm.trans H; rw [hy111]; with_reducible exact H2_) | (have H2_ := (Option.bind_some _ _).symm.trans H; with_reducible exact H2_) | with_reducible exact H | (rw [hy111]; exact H) | exact H
 have Ny111 := Aside0.mk hy111
 clear hy111
 obtain rfl := Option.some.inj H
 go_enter Try.func31, Try.ntmps31
 go_wp2_with (first | ((with_reducible refine gate_dst (N := 7) rfl ?_); refine Kd.R_lit k45 _ 45 ?hg (N := 7) ?hd (xs := ([(⟨10, 2, 0, 0, 0, 0, true⟩ : S45), (⟨20, 1, 7, 0, 0, 0, false⟩ : S45), (⟨60, 2, 0, 0, 0, 0, true⟩ : S45), (⟨70, 1, 8, 0, 0, 0, false⟩ : S45), (⟨90, 2, 0, 0, 0, 0, false⟩ : S45), (⟨95, 1, 9, 0, 0, 0, false⟩ : S45)] : List (S45))) (inner := [.int .i64 10, .int .u8 2, .int .i64 0, .int .i64 0, .int .i64 0, .int .i64 0, .bool true, .int .i64 20, .int .u8 1, .int .i64 7, .int .i64 0, .int .i64 0, .int .i64 0, .bool false, .int .i64 60, .int .u8 2, .int .i64 0, .int .i64 0, .int .i64 0, .int .i64 0, .bool true, .int .i64 70, .int .u8 1, .int .i64 8, .int .i64 0, .int .i64 0, .int .i64 0, .bool false, .int .i64 90, .int .u8 2, .int .i64 0, .int .i64 0, .int .i64 0, .int .i64 0, .bool false, .int .i64 95, .int .u8 1, .int .i64 9, .int .i64 0, .int .i64 0, .int .i64 0, .bool false]) (ok := fun _ => True) (okp := fun _ => True) ?hr ?hp (fun _ hk => hk) trivial (Below.refl _ _) (Nat.le_refl _) zq63 ?_; (case hd => rfl); (case hg => rfl); (case hr => exact zq11); (case hp => exact (Reps.c7 (show Kd.M k45 _ _ _ (⟨10, 2, 0, 0, 0, 0, true⟩ : S45) [.int .i64 10, .int .u8 2, .int .i64 0, .int .i64 0, .int .i64 0, .int .i64 0, .bool true] from (k45_mkM _ _ _ (⟨10, 2, 0, 0, 0, 0, true⟩ : S45) )) (Reps.c7 (show Kd.M k45 _ _ _ (⟨20, 1, 7, 0, 0, 0, false⟩ : S45) [.int .i64 20, .int .u8 1, .int .i64 7, .int .i64 0, .int .i64 0, .int .i64 0, .bool false] from (k45_mkM _ _ _ (⟨20, 1, 7, 0, 0, 0, false⟩ : S45) )) (Reps.c7 (show Kd.M k45 _ _ _ (⟨60, 2, 0, 0, 0, 0, true⟩ : S45) [.int .i64 60, .int .u8 2, .int .i64 0, .int .i64 0, .int .i64 0, .int .i64 0, .bool true] from (k45_mkM _ _ _ (⟨60, 2, 0, 0, 0, 0, true⟩ : S45) )) (Reps.c7 (show Kd.M k45 _ _ _ (⟨70, 1, 8, 0, 0, 0, false⟩ : S45) [.int .i64 70, .int .u8 1, .int .i64 8, .int .i64 0, .int .i64 0, .int .i64 0, .bool false] from (k45_mkM _ _ _ (⟨70, 1, 8, 0, 0, 0, false⟩ : S45) )) (Reps.c7 (show Kd.M k45 _ _ _ (⟨90, 2, 0, 0, 0, 0, false⟩ : S45) [.int .i64 90, .int .u8 2, .int .i64 0, .int .i64 0, .int .i64 0, .int .i64 0, .bool false] from (k45_mkM _ _ _ (⟨90, 2, 0, 0, 0, 0, false⟩ : S45) )) (Reps.c7 (show Kd.M k45 _ _ _ (⟨95, 1, 9, 0, 0, 0, false⟩ : S45) [.int .i64 95, .int .u8 1, .int .i64 9, .int .i64 0, .int .i64 0, .int .i64 0, .bool false] from (k45_mkM _ _ _ (⟨95, 1, 9, 0, 0, 0, false⟩ : S45) )) (Reps.none _ _)))))))); intro v112 w1 ho2 hb hg_ hnew_; clear hg_ hnew_; (first | rw [← Ny111.out] at ho2 | (simp only [Int.reduceToNat] at ho2; rw [← Ny111.out] at ho2)); have n_ := as2 (Kd.R_lower ho2 (below_size zq3)) (below_step zq3 hb); clear HB; obtain ⟨HO113, HB⟩ := n_; clear hb ho2))
 go_ret
 exact ⟨_, zq9, (zq1 HO113.out), zq3⟩
end Go.Proofs.Ytbpebehbfpgjbaa.P
end
section
namespace Go.Proofs.Ytbpebehbfpgjbaa.P
open Go.RowKit Go.Proofs.YtbpebehbfpgjbaaW.PrintWords Go.Proofs.YtbpebehbfpgjbaaW.PrintLast Go.Proofs.YtbpebehbfpgjbaaW.PrintMore
set_option linter.unusedVariables false
set_option linter.unusedSimpArgs false
def eyeF : List S58 := [⟨⟨#[99, 114, 97, 99, 107]⟩, 1⟩]
def eyeS : List S56 := [⟨⟨#[101, 121, 101]⟩, [⟨0, 1, 50⟩]⟩]
def dayL : List S45 := [⟨10, 2, 0, 0, 0, 0, true⟩, ⟨20, 1, 7, 0, 0, 0, false⟩, ⟨60, 2, 0, 0, 0, 0, true⟩, ⟨70, 1, 8, 0, 0, 0, false⟩, ⟨90, 2, 0, 0, 0, 0, false⟩, ⟨95, 1, 9, 0, 0, 0, false⟩]
theorem eye_plain (w : World) : Calls Try.prog 30 #[] w fun e w' => ∃ A1 c1 A2 c2, e = .returned (.agg #[.int .i64 100, .slice A1 1 c1, .slice A2 1 c2]) ∧ 1 ≤ c1 ∧ 1 ≤ c2 ∧ Kd.C k58 w' A1 1 eyeF ∧ Kd.C k56 w' A2 1 eyeS ∧ Below w.heap.size w w' :=
 (culletlaw07_eye.calls 100 eyeF eyeS w rfl).mono (by
  rintro e w' ⟨v1, v2, rfl, h1, h2, hb⟩
  obtain ⟨A1, c1, rfl, k1, r1⟩ := Kd.R_reads h1
  obtain ⟨A2, c2, rfl, k2, r2⟩ := Kd.N_reads h2
  exact ⟨A1, c1, A2, c2, rfl, k1, k2, r1, r2, hb⟩)
theorem day_plain (w : World) : Calls Try.prog 31 #[] w fun e w' => ∃ A3 c3, e = .returned (.slice A3 6 c3) ∧ 6 ≤ c3 ∧ Kd.C k45 w' A3 6 dayL ∧ Below w.heap.size w w' :=
 (culletlaw07_day.calls dayL w rfl).mono (by
  rintro e w' ⟨v1, rfl, h1, hb⟩
  obtain ⟨A1, c1, rfl, k1, r1⟩ := Kd.R_reads h1
  exact ⟨A1, c1, rfl, k1, r1, hb⟩)
section
variable (A1 : Option Addr) (c1 : Nat) (A2 : Option Addr) (c2 : Nat) (A3 : Option Addr) (c3 : Nat) (w : World) (k1 : 1 ≤ c1) (k2 : 1 ≤ c2) (k3 : 6 ≤ c3) (h1 : Kd.C k58 w A1 1 eyeF) (h2 : Kd.C k56 w A2 1 eyeS) (h3 : Kd.C k45 w A3 6 dayL)
include k1 k2 k3 h1 h2 h3
theorem look1 : Calls Try.prog 21 #[.agg #[.int .i64 100, .slice A1 1 c1, .slice A2 1 c2], .slice A3 6 c3, .int .i64 1] w fun e w' => e = .returned (.tuple #[.int .u8 2, .int .i64 (-1), .int .i64 0]) ∧ Below w.heap.size w w' :=
 inspect_Judge.calls 100 A1 c1 eyeF A2 c2 eyeS A3 c3 dayL 1 2 (-1) 0 w h1 k1 h2 k2 h3 k3 zq22
theorem look3 : Calls Try.prog 21 #[.agg #[.int .i64 100, .slice A1 1 c1, .slice A2 1 c2], .slice A3 6 c3, .int .i64 3] w fun e w' => e = .returned (.tuple #[.int .u8 3, .int .i64 0, .int .i64 0]) ∧ Below w.heap.size w w' :=
 inspect_Judge.calls 100 A1 c1 eyeF A2 c2 eyeS A3 c3 dayL 3 3 0 0 w h1 k1 h2 k2 h3 k3 zq22
theorem look5 : Calls Try.prog 21 #[.agg #[.int .i64 100, .slice A1 1 c1, .slice A2 1 c2], .slice A3 6 c3, .int .i64 5] w fun e w' => e = .returned (.tuple #[.int .u8 3, .int .i64 0, .int .i64 0]) ∧ Below w.heap.size w w' :=
 inspect_Judge.calls 100 A1 c1 eyeF A2 c2 eyeS A3 c3 dayL 5 3 0 0 w h1 k1 h2 k2 h3 k3 zq22
theorem lookB : Calls Try.prog 12 #[.agg #[.int .i64 100, .slice A1 1 c1, .slice A2 1 c2], .slice A3 6 c3] w fun e w' => ∃ A c, e = .returned (.tuple #[.slice A 2 c, .int .i64 0]) ∧ Kd.C (Kd.int .i64) w' A 2 [3, 5] ∧ Below w.heap.size w w' :=
 (inspect_Blocked.calls 100 A1 c1 eyeF A2 c2 eyeS A3 c3 dayL [3, 5] 0 w h1 k1 h2 k2 h3 k3 zq22).mono (by
  rintro e w' ⟨v, rfl, h, hb⟩
  obtain ⟨A, c, rfl, _, r⟩ := Kd.R_reads h
  exact ⟨A, c, rfl, r, hb⟩)
theorem lookM : Calls Try.prog 15 #[.agg #[.int .i64 100, .slice A1 1 c1, .slice A2 1 c2], .slice A3 6 c3, .int .i64 0] w fun e w' => e = .returned (.tuple #[.agg #[.int .i64 1, .int .i64 50], .int .i64 1, .int .i64 0]) ∧ Below w.heap.size w w' :=
 inspect_Missed.calls 100 A1 c1 eyeF A2 c2 eyeS A3 c3 dayL 0 1 50 1 0 w h1 k1 h2 k2 h3 k3 zq22
theorem lookL : Calls Try.prog 17 #[.agg #[.int .i64 100, .slice A1 1 c1, .slice A2 1 c2], .slice A3 6 c3] w fun e w' => ∃ A c A' c' A'' c'', e = .returned (.tuple #[.slice A 1 c, .slice A' 2 c', .slice A'' 0 c'', .int .i64 0]) ∧ Kd.C (Kd.int .i64) w' A 1 [7] ∧ Kd.C (Kd.int .i64) w' A' 2 [8, 9] ∧ Below w.heap.size w w' :=
 (inspect_Lots.calls 100 A1 c1 eyeF A2 c2 eyeS A3 c3 dayL [7] [8, 9] [] 0 w h1 k1 h2 k2 h3 k3 zq22).mono (by
  rintro e w' ⟨v, v', v'', rfl, h, h', h'', hb⟩
  obtain ⟨A, c, rfl, _, r⟩ := Kd.R_reads h
  obtain ⟨A', c', rfl, _, r'⟩ := Kd.R_reads h'
  obtain ⟨A'', c'', rfl, _, r''⟩ := Kd.R_reads h''
  exact ⟨A, c, A', c', A'', c'', rfl, r, r', hb⟩)
end
theorem C_at0 {w : World} {A : Option Addr} {n : Nat} {xs : List Int} (h : Kd.C (Kd.int .i64) w A n xs) (i : Nat) (hi : i < n) : ∃ ad, A = some ad ∧ w.cell? (ad.add i) = some (.int .i64 (xs.getD i 0)) := by
 obtain ⟨ad, cs, rfl, _, hK, hc0⟩ := Kd.C_get h (0 : Int) (i : Int) zq17 zq17
 obtain rfl : cs = [.int .i64 (xs.getD (i : Int).toNat 0)] := hK
 have hx := hc0 0 _ rfl
 simp only [show (Kd.int .i64).sz = 1 from rfl, Nat.mul_one, Nat.add_zero, Int.toNat_natCast] at hx
 exact ⟨ad, rfl, hx⟩
theorem C_atz {w : World} {A : Option Addr} {n : Nat} {xs : List Int} (h : Kd.C (Kd.int .i64) w A n xs) (hi : 0 < n) : ∃ ad, A = some ad ∧ w.cell? ad = some (.int .i64 (xs.getD 0 0)) := by
 obtain ⟨ad, e, hx⟩ := C_at0 h 0 hi
 exact ⟨ad, e, hx⟩
theorem C_at1 {w : World} {A : Option Addr} {n : Nat} {xs : List Int} (h : Kd.C (Kd.int .i64) w A n xs) (hi : 1 < n) : ∃ ad, A = some ad ∧ w.cell? ⟨ad.block, ad.off + 1, none⟩ = some (.int .i64 (xs.getD 1 0)) := by
 obtain ⟨ad, e, hx⟩ := C_at0 h 1 hi
 refine ⟨ad, e, ?_⟩
 have hf := add_field ad 0 1 zq17
 rw [show (0 + 1 : Nat) = 1 from rfl] at hf
 rw [hf] at hx
 exact hx
def culletlaw07_looks.f : Option Bool := some true
set_option maxHeartbeats 16000000 in
set_option maxRecDepth 100000 in
theorem culletlaw07_looks.calls (r : Bool) (w : World) (h : culletlaw07_looks.f = some r) : Calls Try.prog 11 #[] w fun e w' => e = .returned (.bool r) ∧ Below w.heap.size w w' := by
 obtain rfl : true = r := Option.some.inj h
 clear h
 have HB := Aside0.mk (Below.refl w.heap.size w)
 go_enter Try.func11, Try.ntmps11
 go_wp2_with (first
  | (go_at_call 30; (with_reducible refine (eye_plain _).mono ?_); rintro e w1 ⟨A1, c1, A2, c2, rfl, k1, k2, q1, q2, hb⟩; have K1 := Aside0.mk k1; have K2 := Aside0.mk k2; have Q1 := Aside0.mk q1; have Q2 := Aside0.mk q2; have HB := Aside0.mk (below_step HB.out hb); (try have HL := Aside0.mk (Kd.C_below HL.out hb)); (try have HR := Aside0.mk (blk_below HR.out hb)); clear k1 k2 q1 q2 hb)
  | (go_at_call 31; (with_reducible refine (day_plain _).mono ?_); rintro e w2 ⟨A3, c3, rfl, k3, q3, hb⟩; have K3 := Aside0.mk k3; have Q1 := Aside0.mk (Kd.C_below Q1.out hb); have Q2 := Aside0.mk (Kd.C_below Q2.out hb); have Q3 := Aside0.mk q3; have HB := Aside0.mk (below_step HB.out hb); (try have HL := Aside0.mk (Kd.C_below HL.out hb)); (try have HR := Aside0.mk (blk_below HR.out hb)); clear k3 q3 hb)
  | (go_at_call 21; (with_reducible refine (look1 A1 c1 A2 c2 A3 c3 _ K1.out K2.out K3.out Q1.out Q2.out Q3.out).mono ?_); rintro e w3 ⟨rfl, hb⟩; have HB := Aside0.mk (below_step HB.out hb); (try have HL := Aside0.mk (Kd.C_below HL.out hb)); (try have HR := Aside0.mk (blk_below HR.out hb)); clear hb)
  | (go_at_call 21; (with_reducible refine (look3 A1 c1 A2 c2 A3 c3 _ K1.out K2.out K3.out Q1.out Q2.out Q3.out).mono ?_); rintro e w3 ⟨rfl, hb⟩; have HB := Aside0.mk (below_step HB.out hb); (try have HL := Aside0.mk (Kd.C_below HL.out hb)); (try have HR := Aside0.mk (blk_below HR.out hb)); clear hb)
  | (go_at_call 21; (with_reducible refine (look5 A1 c1 A2 c2 A3 c3 _ K1.out K2.out K3.out Q1.out Q2.out Q3.out).mono ?_); rintro e w3 ⟨rfl, hb⟩; have HB := Aside0.mk (below_step HB.out hb); (try have HL := Aside0.mk (Kd.C_below HL.out hb)); (try have HR := Aside0.mk (blk_below HR.out hb)); clear hb)
  | (go_at_call 12; (with_reducible refine (lookB A1 c1 A2 c2 A3 c3 _ K1.out K2.out K3.out Q1.out Q2.out Q3.out).mono ?_); rintro e w3 ⟨AB, cB, rfl, qB, hb⟩; have HL := Aside0.mk qB; have HB := Aside0.mk (below_step HB.out hb); clear qB hb)
  | (go_at_call 15; (with_reducible refine (lookM A1 c1 A2 c2 A3 c3 _ K1.out K2.out K3.out Q1.out Q2.out Q3.out).mono ?_); rintro e wM ⟨rfl, hb⟩; have HL := Aside0.mk (Kd.C_below (Kd.C_below HL.out hb) ((Below.refl _ wM).alloc (Nat.le_refl _) (.cells #[.int .i64 1, .int .i64 50] 35))); have HB := Aside0.mk ((below_step HB.out hb).alloc (below_step HB.out hb).size (.cells #[.int .i64 1, .int .i64 50] 35)); have HR := Aside0.mk (blk_new wM (.cells #[.int .i64 1, .int .i64 50] 35)); clear hb)
  | (go_at_call 17; (with_reducible refine (lookL A1 c1 A2 c2 A3 c3 _ K1.out K2.out K3.out Q1.out Q2.out Q3.out).mono ?_); rintro e wL ⟨AP, cP, AQ, cQ, AO, cO, rfl, qP, qQ, hb⟩; have HL := Aside0.mk (Kd.C_below HL.out hb); have HR := Aside0.mk (blk_below HR.out hb); have HB := Aside0.mk (below_step HB.out hb); obtain ⟨adB, rfl, x0⟩ := C_atz HL.out zq56; obtain ⟨adB', eB, x1⟩ := C_at1 HL.out zq56; cases eB; obtain ⟨adP, rfl, x2⟩ := C_atz qP zq56; obtain ⟨adQ, rfl, x3⟩ := C_atz qQ zq56; obtain ⟨adQ', eQ, x4⟩ := C_at1 qQ zq56; cases eQ; have x5 := (blk_cell HR.out 0).trans (rfl : _ = some (Value.int .i64 1)); have x6 := (blk_cell HR.out 1).trans (rfl : _ = some (Value.int .i64 50)); simp only [List.getD_cons_zero, List.getD_cons_succ] at x0 x1 x2 x3 x4; clear qP qQ hb))
 all_goals (go_ret; exact ⟨rfl, HB.out⟩)
theorem many_l1 (a0 : Int) (fl : List S58) (st : List S56) (h : st.length ≤ 20) : ∀ r i k (n : Int), i + r = st.length → r < k → ∃ b, culletlaw07_many.l1 k n (i : Int) a0 fl st = some b
 | 0, i, k, n, hi, hk => by
  obtain ⟨k, rfl⟩ : ∃ m, k = m + 1 := ⟨k - 1, zq17⟩
  rw [culletlaw07_many.l1, if_neg zq17]
  exact ⟨_, rfl⟩
 | r + 1, i, k, n, hi, hk => by
  obtain ⟨k, rfl⟩ : ∃ m, k = m + 1 := ⟨k - 1, zq17⟩
  rw [culletlaw07_many.l1, if_pos zq17, if_pos zq17, wsucc i zq17]
  exact many_l1 a0 fl st h r (i + 1) k _ zq17 zq17
theorem many_l0 (a0 : Int) (fl : List S58) (st : List S56) (hf : fl.length ≤ 20) (h : st.length ≤ 20) : ∀ r i k (n : Int), i + r = fl.length → r + 22 < k → ∃ b, culletlaw07_many.l0 k n (i : Int) a0 fl st = some b
 | 0, i, k, n, hi, hk => by
  obtain ⟨k, rfl⟩ : ∃ m, k = m + 1 := ⟨k - 1, zq17⟩
  rw [culletlaw07_many.l0, if_neg zq17]
  exact many_l1 a0 fl st h st.length 0 k n zq17 zq17
 | r + 1, i, k, n, hi, hk => by
  obtain ⟨k, rfl⟩ : ∃ m, k = m + 1 := ⟨k - 1, zq17⟩
  rw [culletlaw07_many.l0, if_pos zq17, if_pos zq17, wsucc i zq17]
  exact many_l0 a0 fl st hf h r (i + 1) k _ zq17 zq17
theorem many_some (a0 : Int) (fl : List S58) (st : List S56) (l : List S45) (k : Nat) (hk : 60 ≤ k) : ∃ b, culletlaw07_many.f k a0 fl st l = some b ∧ (b = false → fl.length ≤ 20 ∧ st.length ≤ 20 ∧ l.length ≤ 600) := by
 obtain ⟨k, rfl⟩ : ∃ m, k = m + 1 := ⟨k - 1, zq17⟩
 have ht : culletlaw07_many.j0 (k + 1) true a0 fl st = some true := by rw [culletlaw07_many.j0, if_pos rfl]
 unfold culletlaw07_many.f
 by_cases h1 : (fl.length : Int) > 20
 ·rw [if_pos h1, ht]
  exact ⟨true, rfl, fun h => by cases h⟩
 ·rw [if_neg h1]
  by_cases h2 : (st.length : Int) > 20
  ·rw [if_pos h2, ht]
   exact ⟨true, rfl, fun h => by cases h⟩
  ·rw [if_neg h2]
   have hf : ∃ b, culletlaw07_many.j0 (k + 1) false a0 fl st = some b := by
    rw [culletlaw07_many.j0, if_neg zq56]
    exact many_l0 a0 fl st zq17 zq17 fl.length 0 k 0 zq17 zq17
   have hlast : ∃ b, culletlaw07_many.j0 (k + 1) (decide ((l.length : Int) > 600)) a0 fl st = some b ∧ (b = false → fl.length ≤ 20 ∧ st.length ≤ 20 ∧ l.length ≤ 600) := by
    by_cases h3 : (l.length : Int) > 600
    ·rw [decide_eq_true h3, ht]
     exact ⟨true, rfl, fun h => by cases h⟩
    ·rw [decide_eq_false h3]
     obtain ⟨b, hb⟩ := hf
     exact ⟨b, hb, fun _ => by omega⟩
   by_cases h4 : (l.length : Int) > 40
   ·rw [if_pos h4]
    by_cases h5 : (l.length : Int) ≤ 512
    ·rw [if_pos h5, ht]
     exact ⟨true, rfl, fun h => by cases h⟩
    ·rw [if_neg h5]
     exact hlast
   ·rw [if_neg h4]
    exact hlast
end Go.Proofs.Ytbpebehbfpgjbaa.P
end
section
namespace Go.Proofs.Ytbpebehbfpgjbaa.P
open Go.RowKit Go.Proofs.YtbpebehbfpgjbaaW.PrintWords Go.Proofs.YtbpebehbfpgjbaaW.PrintLast Go.Proofs.YtbpebehbfpgjbaaW.PrintMore
attribute [local go_sem] max2_int min2_int max_two min_two max_three min_three max_four min_four
set_option linter.unusedVariables false
set_option linter.unusedSimpArgs false
theorem eqA35 (d : Nat) (w : World) (x0 y0 : Int) (x1 y1 : Int) :
  (Op.equalIn (d + 2) 35 (.agg #[.int .i64 x0, .int .i64 x1]) (.agg #[.int .i64 y0, .int .i64 y1])).run Try.prog w = .ok (x0 == y0 && (x1 == y1)) w := by
 refine eqA_of Try.underlying35 zq22 ?_
 refine eqf_cons zq58 (by go_simp; rfl) (by go_simp; rfl) (by go_simp) ?_
 exact eqf_last zq58 (by go_simp; rfl) (by go_simp; rfl) (by go_simp)
end Go.Proofs.Ytbpebehbfpgjbaa.P
end
section
namespace Go.Proofs.Ytbpebehbfpgjbaa.P
open Go.RowKit Go.Proofs.YtbpebehbfpgjbaaW.PrintWords Go.Proofs.YtbpebehbfpgjbaaW.PrintLast Go.Proofs.YtbpebehbfpgjbaaW.PrintMore
attribute [local go_sem] max2_int min2_int max_two min_two max_three min_three max_four min_four
set_option linter.unusedVariables false
set_option linter.unusedSimpArgs false
attribute [local go_sem high] eqA35
mutual
def culletlaw07_InspectBlocks.j0 : Nat → List (S45) → Int → Bool → Int → List (S58) → List (S56) → Option (Bool)
 | 0, _, _, _, _, _, _ => none
 | k + 1, x1, x2, x45, x299000, x299001, x299002 => if x45 = true then (some false) else ((inspect_Missed.f x299000 x299001 x299002 x1 x2).bind fun bt310 => ((culletref07_Missed.f k x299000 x299001 x299002 x1 x2).bind fun bt315 => (if (!(bt310.1 == bt315.1) || (!(bt310.2.1 == bt315.2.1))) = true then (culletlaw07_InspectBlocks.j1 k x1 true x299000 x299001 x299002) else (if bt310.2.2.1 = bt315.2.2.1 then (culletlaw07_InspectBlocks.j1 k x1 (bt310.2.2.2 != bt315.2.2.2) x299000 x299001 x299002) else (culletlaw07_InspectBlocks.j1 k x1 true x299000 x299001 x299002)))))
def culletlaw07_InspectBlocks.j1 : Nat → List (S45) → Bool → Int → List (S58) → List (S56) → Option (Bool)
 | 0, _, _, _, _, _ => none
 | k + 1, x1, x74, x299000, x299001, x299002 => if x74 = true then (some false) else ((inspect_Lots.f x299000 x299001 x299002 x1).bind fun bt320 => ((culletref07_Lots.f k x299000 x299001 x299002 x1).bind fun bt330 => (if bt320.2.2.2 = bt330.2.2.2 then ((culletlaw07_ints.f k bt320.1 bt330.1).bind fun t340 => (if t340 = true then ((culletlaw07_ints.f k bt320.2.1 bt330.2.1).bind fun t341 => (if t341 = true then ((culletlaw07_ints.f k bt320.2.2.1 bt330.2.2.1).bind fun t342 => (if t342 = true then ((culletlaw07_looks.f).bind fun t343 => (some t343)) else (some false))) else (some false))) else (some false))) else (some false))))
end
def culletlaw07_InspectBlocks.f (k : Nat) (a0_0 : Int) (l0_1 : List (S58)) (l0_2 : List (S56)) (l1 : List (S45)) (a2 : Int) : Option (Bool) := (culletlaw07_many.f k a0_0 l0_1 l0_2 l1).bind fun t299 => (if t299 = true then ((culletlaw07_looks.f).bind fun t300 => (some t300)) else ((inspect_Blocked.f a0_0 l0_1 l0_2 l1).bind fun bt301 => ((culletref07_Blocked.f k a0_0 l0_1 l0_2 l1).bind fun bt305 => (if bt301.2 = bt305.2 then ((culletlaw07_ints.f k bt301.1 bt305.1).bind fun t309 => (culletlaw07_InspectBlocks.j0 k l1 a2 (!t309) a0_0 l0_1 l0_2)) else (culletlaw07_InspectBlocks.j0 k l1 a2 true a0_0 l0_1 l0_2)))))
set_option maxHeartbeats 8000000 in
set_option maxRecDepth 100000 in
theorem culletlaw07_InspectBlocks.calls (k : Nat) (a0_0 : Int) (A0_1 : Option Addr) (c0_1 : Nat) (l0_1 : List (S58)) (A0_2 : Option Addr) (c0_2 : Nat) (l0_2 : List (S56)) (A1 : Option Addr) (c1 : Nat) (l1 : List (S45)) (a2 : Int) (r : Bool) (w : World) (hr0_1 : Kd.C k58 w A0_1 l0_1.length l0_1) (hc0_1 : l0_1.length ≤ c0_1) (hr0_2 : Kd.C k56 w A0_2 l0_2.length l0_2) (hc0_2 : l0_2.length ≤ c0_2) (hr1 : Kd.C k45 w A1 l1.length l1) (hc1 : l1.length ≤ c1) (h : culletlaw07_InspectBlocks.f k a0_0 l0_1 l0_2 l1 a2 = some r) :
  Calls Try.prog 3 #[.agg #[.int .i64 a0_0, .slice A0_1 l0_1.length c0_1, .slice A0_2 l0_2.length c0_2], .slice A1 l1.length c1, .int .i64 a2] w fun e w' => e = .returned (.bool r) ∧ Below w.heap.size w w' := by
 have hu25 := Try.underlying25
 have hu35 := Try.underlying35
 have HR0_1 := Aside0.mk hr0_1
 have HC0_1 := Aside0.mk hc0_1
 clear hr0_1 hc0_1
 have HR0_2 := Aside0.mk hr0_2
 have HC0_2 := Aside0.mk hc0_2
 clear hr0_2 hc0_2
 have HR1 := Aside0.mk hr1
 have HC1 := Aside0.mk hc1
 clear hr1 hc1
 have HB := Aside0.mk (Below.refl w.heap.size w)
 have H : ((culletlaw07_many.f k a0_0 l0_1 l0_2 l1).bind fun t299 => (if t299 = true then ((culletlaw07_looks.f).bind fun t300 => (some t300)) else ((inspect_Blocked.f a0_0 l0_1 l0_2 l1).bind fun bt301 => ((culletref07_Blocked.f k a0_0 l0_1 l0_2 l1).bind fun bt305 => (if bt301.2 = bt305.2 then ((culletlaw07_ints.f k bt301.1 bt305.1).bind fun t309 => (culletlaw07_InspectBlocks.j0 k l1 a2 (!t309) a0_0 l0_1 l0_2)) else (culletlaw07_InspectBlocks.j0 k l1 a2 true a0_0 l0_1 l0_2)))))) = some r := h
 clear h
 replace H := Option.bind_eq_some_iff.mp H
 obtain ⟨t299, A40, H⟩ := H
 replace H : (if t299 = true then ((culletlaw07_looks.f).bind fun t300 => (some t300)) else ((inspect_Blocked.f a0_0 l0_1 l0_2 l1).bind fun bt301 => ((culletref07_Blocked.f k a0_0 l0_1 l0_2 l1).bind fun bt305 => (if bt301.2 = bt305.2 then ((culletlaw07_ints.f k bt301.1 bt305.1).bind fun t309 => (culletlaw07_InspectBlocks.j0 k l1 a2 (!t309) a0_0 l0_1 l0_2)) else (culletlaw07_InspectBlocks.j0 k l1 a2 true a0_0 l0_1 l0_2))))) = some r := H
 have A4 := Aside0.mk A40
 clear A40
 by_cases c5 : t299 = true
 ·subst c5
  have H1 : ((culletlaw07_looks.f).bind fun t300 => (some t300)) = some r := by rw [if_pos rfl] at H; exact H
  clear H
  have H := H1
  clear H1
  replace H := Option.bind_eq_some_iff.mp H
  obtain ⟨t300, A60, H⟩ := H
  replace H : (some t300) = some r := H
  have A6 := Aside0.mk A60
  clear A60
  obtain rfl := Option.some.inj H
  go_enter Try.func3, Try.ntmps3
  go_wp2_with (first | ((with_reducible refine gate_dst (N := 3) rfl ?_); refine box_event ?hg (N := 3) ?hd (cs := #[.int .i64 a0_0, .slice A0_1 l0_1.length c0_1, .slice A0_2 l0_2.length c0_2]) (t := 25) ?hr ?_; (case hd => rfl); (case hg => rfl); (case hr => exact zq11); intro gb298 hg w7 hbox hb; have n_ := as4 (below_step zq3 hb) (hbox) ((zq31 : w.heap.size ≤ gb298)) ((zq31 : w.heap.size ≤ gb298)); clear HB hb hbox hg; obtain ⟨HB, BK298, GW298, GE298⟩ := n_; obtain ⟨hcz8_0, hcz8_1, hcz8_2, hfz8_0, hfz8_1, hfz8_2⟩ := bcs3 BK298.out) | ((with_reducible refine gate_callee (f := 10) rfl ?_); refine goesL_ (some 23) rfl rfl Try.func10 zq22 rfl #[.agg #[.int .i64 a0_0, .slice A0_1 l0_1.length c0_1, .slice A0_2 l0_2.length c0_2], .slice A1 l1.length c1] rfl zq4 ?_; (with_reducible refine (culletlaw07_many.calls k a0_0 _ _ l0_1 _ _ l0_2 _ _ l1 true _ ?side1 ?side2 ?side3 ?side4 ?side5 ?side6 A4.out).mono ?_); (case side1 => exact zq5); (case side2 => exact HC0_1.out); (case side3 => exact zq6); (case side4 => exact HC0_2.out); (case side5 => exact zq12); (case side6 => exact HC1.out); rintro e w9 ⟨rfl, hb⟩; refine ⟨_, rfl, ?_⟩; have n_ := as2 (blk_below (zq0 BK298.out) hb) (below_step zq40 hb); clear BK298 HB; obtain ⟨BK298, HB⟩ := n_; (try clear hb); (try clear hb2); (try clear hk); (try clear hi)) | ((with_reducible refine gate_callee (f := 11) rfl ?_); refine goesL_ (some 24) rfl rfl Try.func11 zq22 rfl #[] rfl zq4 ?_; (with_reducible refine (culletlaw07_looks.calls  t300 _ A6.out).mono ?_); rintro e w10 ⟨rfl, hb⟩; refine ⟨_, rfl, ?_⟩; have n_ := as2 (blk_below (zq0 BK298.out) hb) (below_step zq40 hb); clear BK298 HB; obtain ⟨BK298, HB⟩ := n_; (try clear hb); (try clear hb2); (try clear hk); (try clear hi)))
  go_ret
  exact ⟨zq9, zq40⟩
 ·replace c5 := Bool.eq_false_iff.mpr c5
  subst c5
  have H1 : ((inspect_Blocked.f a0_0 l0_1 l0_2 l1).bind fun bt301 => ((culletref07_Blocked.f k a0_0 l0_1 l0_2 l1).bind fun bt305 => (if bt301.2 = bt305.2 then ((culletlaw07_ints.f k bt301.1 bt305.1).bind fun t309 => (culletlaw07_InspectBlocks.j0 k l1 a2 (!t309) a0_0 l0_1 l0_2)) else (culletlaw07_InspectBlocks.j0 k l1 a2 true a0_0 l0_1 l0_2)))) = some r := by rw [if_neg (show ¬ (false = true) by decide)] at H; exact H
  clear H
  have H := H1
  clear H1
  replace H := Option.bind_eq_some_iff.mp H
  obtain ⟨⟨t301, t304⟩, A110, H⟩ := H
  replace H : ((culletref07_Blocked.f k a0_0 l0_1 l0_2 l1).bind fun bt305 => (if t304 = bt305.2 then ((culletlaw07_ints.f k t301 bt305.1).bind fun t309 => (culletlaw07_InspectBlocks.j0 k l1 a2 (!t309) a0_0 l0_1 l0_2)) else (culletlaw07_InspectBlocks.j0 k l1 a2 true a0_0 l0_1 l0_2))) = some r := H
  have A11 := Aside0.mk A110
  clear A110
  replace H := Option.bind_eq_some_iff.mp H
  obtain ⟨⟨t305, t308⟩, A120, H⟩ := H
  replace H : (if t304 = t308 then ((culletlaw07_ints.f k t301 t305).bind fun t309 => (culletlaw07_InspectBlocks.j0 k l1 a2 (!t309) a0_0 l0_1 l0_2)) else (culletlaw07_InspectBlocks.j0 k l1 a2 true a0_0 l0_1 l0_2)) = some r := H
  have A12 := Aside0.mk A120
  clear A120
  have HC13 := Aside0.mk H
  clear H
  go_enter Try.func3, Try.ntmps3
  go_upto_region 5 with (first | ((with_reducible refine gate_dst (N := 3) rfl ?_); refine box_event ?hg (N := 3) ?hd (cs := #[.int .i64 a0_0, .slice A0_1 l0_1.length c0_1, .slice A0_2 l0_2.length c0_2]) (t := 25) ?hr ?_; (case hd => rfl); (case hg => rfl); (case hr => exact zq11); intro gb298 hg w14 hbox hb; have n_ := as4 (below_step zq3 hb) (hbox) ((zq31 : w.heap.size ≤ gb298)) ((zq31 : w.heap.size ≤ gb298)); clear HB hb hbox hg; obtain ⟨HB, BK298, GW298, GE298⟩ := n_; obtain ⟨hcz15_0, hcz15_1, hcz15_2, hfz15_0, hfz15_1, hfz15_2⟩ := bcs3 BK298.out) | ((with_reducible refine gate_callee (f := 10) rfl ?_); refine goesL_ (some 23) rfl rfl Try.func10 zq22 rfl #[.agg #[.int .i64 a0_0, .slice A0_1 l0_1.length c0_1, .slice A0_2 l0_2.length c0_2], .slice A1 l1.length c1] rfl zq4 ?_; (with_reducible refine (culletlaw07_many.calls k a0_0 _ _ l0_1 _ _ l0_2 _ _ l1 false _ ?side1 ?side2 ?side3 ?side4 ?side5 ?side6 A4.out).mono ?_); (case side1 => exact zq5); (case side2 => exact HC0_1.out); (case side3 => exact zq6); (case side4 => exact HC0_2.out); (case side5 => exact zq12); (case side6 => exact HC1.out); rintro e w16 ⟨rfl, hb⟩; refine ⟨_, rfl, ?_⟩; have n_ := as2 (blk_below (zq0 BK298.out) hb) (below_step zq40 hb); clear BK298 HB; obtain ⟨BK298, HB⟩ := n_; (try clear hb); (try clear hb2); (try clear hk); (try clear hi); obtain ⟨hcz17_0, hcz17_1, hcz17_2, hfz17_0, hfz17_1, hfz17_2⟩ := bcs3 BK298.out) | ((with_reducible refine gate_callee (f := 12) rfl ?_); refine goesL_ (some 28) rfl rfl Try.func12 zq22 rfl #[.agg #[.int .i64 a0_0, .slice A0_1 l0_1.length c0_1, .slice A0_2 l0_2.length c0_2], .slice A1 l1.length c1] rfl zq4 ?_; (with_reducible refine (inspect_Blocked.calls a0_0 _ _ l0_1 _ _ l0_2 _ _ l1 t301 t304 _ ?side1 ?side2 ?side3 ?side4 ?side5 ?side6 A11.out).mono ?_); (case side1 => exact zq5); (case side2 => exact HC0_1.out); (case side3 => exact zq6); (case side4 => exact HC0_2.out); (case side5 => exact zq12); (case side6 => exact HC1.out); rintro e w18 ⟨v302, rfl, ho0, hb⟩; refine ⟨_, rfl, ?_⟩; have n_ := as3 (Kd.R_lower ho0 (below_size zq40)) (blk_below (zq0 BK298.out) hb) (below_step zq40 hb); clear BK298 HB; obtain ⟨HO303, BK298, HB⟩ := n_; (try clear hb); (try clear hb2); (try clear hk); (try clear hi); (try clear ho0); obtain ⟨hcz19_0, hcz19_1, hcz19_2, hfz19_0, hfz19_1, hfz19_2⟩ := bcs3 BK298.out) | ((with_reducible refine gate_callee (f := 13) rfl ?_); refine goesL_ (some 34) rfl rfl Try.func13 zq22 rfl #[.agg #[.int .i64 a0_0, .slice A0_1 l0_1.length c0_1, .slice A0_2 l0_2.length c0_2], .slice A1 l1.length c1] rfl zq4 ?_; (with_reducible refine (culletref07_Blocked.calls k a0_0 _ _ l0_1 _ _ l0_2 _ _ l1 t305 t308 _ ?side1 ?side2 ?side3 ?side4 ?side5 ?side6 A12.out).mono ?_); (case side1 => exact zq5); (case side2 => exact HC0_1.out); (case side3 => exact zq6); (case side4 => exact HC0_2.out); (case side5 => exact zq12); (case side6 => exact HC1.out); rintro e w20 ⟨v306, rfl, ho0, hb⟩; refine ⟨_, rfl, ?_⟩; have n_ := as4 (Kd.R_elder' (zq1 HO303.out) (Kd.R_base ho0) hb) (Kd.R_lower (Kd.R_new' ho0 (Kd.R_lt (zq1 HO303.out))) (below_size zq40)) (blk_below (zq0 BK298.out) hb) (below_step zq40 hb); clear HO303 BK298 HB; obtain ⟨HO303, HO307, BK298, HB⟩ := n_; (try clear hb); (try clear hb2); (try clear hk); (try clear hi); (try clear ho0)))
  (try simp only [Act.put, List.setIfInBounds_toArray, List.set_cons_zero, List.set_cons_succ])
  go_cut [45] (fun v45 wc => ∃ (kq : Nat) (x45_12 : Bool), v45 = .bool x45_12 ∧ Aside0 (culletlaw07_InspectBlocks.j0 kq l1 a2 x45_12 a0_0 l0_1 l0_2 = some r) ∧ Aside0 (kq ≤ k) ∧ Aside0 (wc.heap[gb298]? = some (.cells #[.int .i64 a0_0, (.slice A0_1 l0_1.length c0_1), (.slice A0_2 l0_2.length c0_2)] 25 (0, 0))) ∧ Aside0 (Below w.heap.size w wc))
  case first =>
   have H := HC13.out
   clear HC13
   by_cases c21 : t304 = t308
   ·rw [if_pos c21] at H
    have c21b0 : (t304 == t308) = true := beq_iff_eq.mpr c21
    have c21b1 : (t304 != t308) = false := bne_eq_false_iff_eq.mpr c21
    clear c21
    (first | rw [c21b0] | (simp only [i64_w, i32_w]; rw [c21b0]) | skip)
    replace H := Option.bind_eq_some_iff.mp H
    obtain ⟨t309, A220, H⟩ := H
    replace H : (culletlaw07_InspectBlocks.j0 k l1 a2 (!t309) a0_0 l0_1 l0_2) = some r := H
    have A22 := Aside0.mk A220
    clear A220
    have H' := Aside0.mk H
    clear H
    obtain ⟨Ao23, co23, eo23⟩ := Kd.R_slice HO303.out
    subst eo23
    obtain ⟨Ao24, co24, eo24⟩ := Kd.R_slice HO307.out
    subst eo24
    go_wp2_with (first | (go_at_call 14; (with_reducible refine (culletlaw07_ints.calls k _ _ t301 _ _ t305 t309 _ ?side1 ?side2 ?side3 ?side4 A22.out).mono ?_); (case side1 => repeat (first | exact (Kd.R_reads' HO303.out).2.2 | (with_reducible refine Kd.C_alloc ?_ _) | (with_reducible refine Kd.C_drewN ?_ _) | (with_reducible refine Kd.C_drew ?_))); (case side2 => exact (Kd.R_reads' HO303.out).2.1); (case side3 => repeat (first | exact (Kd.R_reads' HO307.out).2.2 | (with_reducible refine Kd.C_alloc ?_ _) | (with_reducible refine Kd.C_drewN ?_ _) | (with_reducible refine Kd.C_drew ?_))); (case side4 => exact (Kd.R_reads' HO307.out).2.1); rintro e w' ⟨rfl, ⟨nd, rfl⟩⟩))
    go_meet
    case rel => exact ⟨_, (!t309), zq10, H', ⟨zq50⟩, ⟨(zq0 BK298.out)⟩, ⟨zq40⟩⟩
   ·rw [if_neg c21] at H
    have c21b0 : (t304 == t308) = false := beq_eq_false_iff_ne.mpr c21
    have c21b1 : (t304 != t308) = true := bne_iff_ne.mpr c21
    (first | rw [c21b0] | (simp only [i64_w, i32_w]; rw [c21b0]) | skip)
    have H' := Aside0.mk H
    clear H
    go_wp2
    go_meet
    case rel => exact ⟨_, (true), zq10, H', ⟨zq50⟩, ⟨(zq0 BK298.out)⟩, ⟨zq40⟩⟩
  case rest =>
   clear HC13
   try clear c1
   try clear c2
   try clear p2
   try clear c3
   try clear c5
   try clear c10
   try clear c11
   try clear c12
   try clear c13
   try clear c21
   try clear c21b0
   try clear c21b1
   try clear hcz15_0 hcz15_1 hcz15_2 hfz15_0 hfz15_1 hfz15_2
   try clear hcz17_0 hcz17_1 hcz17_2 hfz17_0 hfz17_1 hfz17_2
   try clear hcz19_0 hcz19_1 hcz19_2 hfz19_0 hfz19_1 hfz19_2
   try clear hcz8_0 hcz8_1 hcz8_2 hfz8_0 hfz8_1 hfz8_2
   obtain ⟨kq, x45_12, rfl, HA, HJ12, BK298, HB⟩ := hcut
   cases kq with
   | zero => exact absurd HA.out (by simp [culletlaw07_InspectBlocks.j0])
   | succ kj12 =>
    have H := HA.out
    clear HA
    simp only [culletlaw07_InspectBlocks.j0] at H
    by_cases c25 : x45_12 = true
    ·subst c25
     have H1 : (some false) = some r := by rw [if_pos rfl] at H; exact H
     clear H
     have H := H1
     clear H1
     obtain rfl := Option.some.inj H
     go_wp2
     go_ret
     exact ⟨zq9, zq40⟩
    ·replace c25 := Bool.eq_false_iff.mpr c25
     subst c25
     have H1 : ((inspect_Missed.f a0_0 l0_1 l0_2 l1 a2).bind fun bt310 => ((culletref07_Missed.f kj12 a0_0 l0_1 l0_2 l1 a2).bind fun bt315 => (if (!(bt310.1 == bt315.1) || (!(bt310.2.1 == bt315.2.1))) = true then (culletlaw07_InspectBlocks.j1 kj12 l1 true a0_0 l0_1 l0_2) else (if bt310.2.2.1 = bt315.2.2.1 then (culletlaw07_InspectBlocks.j1 kj12 l1 (bt310.2.2.2 != bt315.2.2.2) a0_0 l0_1 l0_2) else (culletlaw07_InspectBlocks.j1 kj12 l1 true a0_0 l0_1 l0_2))))) = some r := by rw [if_neg (show ¬ (false = true) by decide)] at H; exact H
     clear H
     have H := H1
     clear H1
     replace H := Option.bind_eq_some_iff.mp H
     obtain ⟨⟨t310, t311, t312, t313⟩, A260, H⟩ := H
     replace H : ((culletref07_Missed.f kj12 a0_0 l0_1 l0_2 l1 a2).bind fun bt315 => (if (!(t310 == bt315.1) || (!(t311 == bt315.2.1))) = true then (culletlaw07_InspectBlocks.j1 kj12 l1 true a0_0 l0_1 l0_2) else (if t312 = bt315.2.2.1 then (culletlaw07_InspectBlocks.j1 kj12 l1 (t313 != bt315.2.2.2) a0_0 l0_1 l0_2) else (culletlaw07_InspectBlocks.j1 kj12 l1 true a0_0 l0_1 l0_2)))) = some r := H
     have A26 := Aside0.mk A260
     clear A260
     replace H := Option.bind_eq_some_iff.mp H
     obtain ⟨⟨t315, t316, t317, t318⟩, A270, H⟩ := H
     replace H : (if (!(t310 == t315) || (!(t311 == t316))) = true then (culletlaw07_InspectBlocks.j1 kj12 l1 true a0_0 l0_1 l0_2) else (if t312 = t317 then (culletlaw07_InspectBlocks.j1 kj12 l1 (t313 != t318) a0_0 l0_1 l0_2) else (culletlaw07_InspectBlocks.j1 kj12 l1 true a0_0 l0_1 l0_2))) = some r := H
     have A27 := Aside0.mk A270
     clear A270
     have HC28 := Aside0.mk H
     clear H
     obtain ⟨hcz29_0, hcz29_1, hcz29_2, hfz29_0, hfz29_1, hfz29_2⟩ := bcs3 BK298.out
     go_upto_region 9 with (first | ((with_reducible refine gate_callee (f := 15) rfl ?_); refine goesL_ (some 50) rfl rfl Try.func15 zq22 rfl #[.agg #[.int .i64 a0_0, .slice A0_1 l0_1.length c0_1, .slice A0_2 l0_2.length c0_2], .slice A1 l1.length c1, .int .i64 a2] rfl zq4 ?_; (with_reducible refine (inspect_Missed.calls a0_0 _ _ l0_1 _ _ l0_2 _ _ l1 a2 t310 t311 t312 t313 _ ?side1 ?side2 ?side3 ?side4 ?side5 ?side6 A26.out).mono ?_); (case side1 => exact zq5); (case side2 => exact HC0_1.out); (case side3 => exact zq6); (case side4 => exact HC0_2.out); (case side5 => exact zq12); (case side6 => exact HC1.out); rintro e w30 ⟨rfl, hb⟩; refine ⟨_, rfl, ?_⟩; have n_ := as2 (blk_below (zq0 BK298.out) hb) (below_step zq40 hb); clear BK298 HB; obtain ⟨BK298, HB⟩ := n_; (try clear hb); (try clear hb2); (try clear hk); (try clear hi)) | ((with_reducible refine gate_dst (N := 11) rfl ?_); refine box_event ?hg (N := 11) ?hd (cs := #[.int .i64 0, .int .i64 0]) (t := 35) ?hr ?_; (case hd => rfl); (case hg => rfl); (case hr => exact zq11); intro gb314 hg w31 hbox hb; have n_ := as7 (blk_below (zq0 BK298.out) hb) (below_step zq40 hb) (hbox) ((by rw [hg]; exact (below_size zq40) : w.heap.size ≤ gb314)) ((by rw [hg]; exact (below_size zq40) : w.heap.size ≤ gb314)) ((by rw [hg]; exact Nat.ne_of_lt (blk_lt (zq0 BK298.out)) : gb298 ≠ gb314)) ((by rw [hg]; exact Nat.ne_of_gt (blk_lt (zq0 BK298.out)) : gb314 ≠ gb298)); clear BK298 HB hb hbox hg; obtain ⟨BK298, HB, BK314, GW314, GE314, NB298_314, NB314_298⟩ := n_; have hnb32 := NB314_298.out; have hnc32 := NB298_314.out; obtain ⟨hcz33_0, hcz33_1, hfz33_0, hfz33_1⟩ := bcs2 BK314.out; obtain ⟨hcz34_0, hcz34_1, hcz34_2, hfz34_0, hfz34_1, hfz34_2⟩ := bcs3 BK298.out) | ((with_reducible refine gate_callee (f := 16) rfl ?_); refine goesL_ (some 58) rfl rfl Try.func16 zq22 rfl #[.agg #[.int .i64 a0_0, .slice A0_1 l0_1.length c0_1, .slice A0_2 l0_2.length c0_2], .slice A1 l1.length c1, .int .i64 a2] rfl zq4 ?_; (with_reducible refine (culletref07_Missed.calls kj12 a0_0 _ _ l0_1 _ _ l0_2 _ _ l1 a2 t315 t316 t317 t318 _ ?side1 ?side2 ?side3 ?side4 ?side5 ?side6 A27.out).mono ?_); (case side1 => exact Kd.C_below HR0_1.out zq48); (case side2 => exact HC0_1.out); (case side3 => exact Kd.C_below HR0_2.out zq48); (case side4 => exact HC0_2.out); (case side5 => exact Kd.C_below HR1.out zq48); (case side6 => exact HC1.out); rintro e w35 ⟨rfl, hb⟩; refine ⟨_, rfl, ?_⟩; have n_ := as3 (blk_below (g := gb298) (o := .cells #[.int .i64 a0_0, .slice A0_1 l0_1.length c0_1, .slice A0_2 l0_2.length c0_2] 25 (0, 0)) (bch1 NB298_314.out BK298.out) hb) (blk_below (g := gb314) (o := .cells #[.int .i64 t310, .int .i64 t311] 35 (0, 0)) (bch0p BK314.out) hb) (below_step zq48 hb); clear BK298 BK314 HB; obtain ⟨BK298, BK314, HB⟩ := n_; (try clear hb); (try clear hb2); (try clear hk); (try clear hi)) | ((with_reducible refine gate_dst (N := 13) rfl ?_); refine box_event ?hg (N := 13) ?hd (cs := #[.int .i64 0, .int .i64 0]) (t := 35) ?hr ?_; (case hd => rfl); (case hg => rfl); (case hr => exact zq11); intro gb319 hg w36 hbox hb; have n_ := as10 (blk_below (zq0 BK298.out) hb) (blk_below (zq0 BK314.out) hb) (below_step zq48 hb) (hbox) ((by rw [hg]; exact (below_size zq48) : w.heap.size ≤ gb319)) ((by rw [hg]; exact (below_size zq48) : w.heap.size ≤ gb319)) ((by rw [hg]; exact Nat.ne_of_lt (blk_lt (zq0 BK298.out)) : gb298 ≠ gb319)) ((by rw [hg]; exact Nat.ne_of_gt (blk_lt (zq0 BK298.out)) : gb319 ≠ gb298)) ((by rw [hg]; exact Nat.ne_of_lt (blk_lt (zq0 BK314.out)) : gb314 ≠ gb319)) ((by rw [hg]; exact Nat.ne_of_gt (blk_lt (zq0 BK314.out)) : gb319 ≠ gb314)); clear BK298 BK314 HB hb hbox hg; obtain ⟨BK298, BK314, HB, BK319, GW319, GE319, NB298_319, NB319_298, NB314_319, NB319_314⟩ := n_; have hnb37 := NB319_298.out; have hnc37 := NB298_319.out; have hnb38 := NB319_314.out; have hnc38 := NB314_319.out; obtain ⟨hcz39_0, hcz39_1, hfz39_0, hfz39_1⟩ := bcs2 BK319.out))
     (try simp only [Act.put, List.setIfInBounds_toArray, List.set_cons_zero, List.set_cons_succ])
     go_cut [74] (fun v74 wc => ∃ (kq : Nat) (x74_27 : Bool), v74 = .bool x74_27 ∧ Aside0 (culletlaw07_InspectBlocks.j1 kq l1 x74_27 a0_0 l0_1 l0_2 = some r) ∧ Aside0 (kq ≤ kj12) ∧ Aside0 (wc.heap[gb298]? = some (.cells #[.int .i64 a0_0, (.slice A0_1 l0_1.length c0_1), (.slice A0_2 l0_2.length c0_2)] 25 (0, 0))) ∧ Aside0 (wc.heap[gb314]? = some (.cells #[.int .i64 t310, .int .i64 t311] 35 (0, 0))) ∧ Aside0 (wc.heap[gb319]? = some (.cells #[.int .i64 t315, .int .i64 t316] 35 (0, 0))) ∧ Aside0 (Below w.heap.size w wc))
     case first =>
      have H := HC28.out
      clear HC28
      by_cases c40 : (!(t310 == t315) || (!(t311 == t316))) = true
      ·rw [if_pos c40] at H
       have c40b0 : (!(t310 == t315) || (!(t311 == t316))) = true := c40
       clear c40
       (first | rw [c40b0] | (simp only [i64_w, i32_w]; rw [c40b0]) | skip)
       have H' := Aside0.mk H
       clear H
       have hnb41 := NB314_298.out
       have hnc41 := NB298_314.out
       have hnb42 := NB314_319.out
       have hnc42 := NB319_314.out
       obtain ⟨hcz43_0, hcz43_1, hfz43_0, hfz43_1⟩ := bcs2 BK314.out
       have hnb44 := NB319_298.out
       have hnc44 := NB298_319.out
       obtain ⟨hcz45_0, hcz45_1, hfz45_0, hfz45_1⟩ := bcs2 BK319.out
       go_wp2
       go_meet
       case rel => exact ⟨_, (true), zq10, H', ⟨by have := HJ12.out; first | omega | exact Nat.le_refl _⟩, ⟨(bch1 NB298_319.out BK298.out)⟩, ⟨(bch1 NB314_319.out BK314.out)⟩, ⟨(bch0p BK319.out)⟩, ⟨zq8⟩⟩
      ·rw [if_neg c40] at H
       have c40b0 : (!(t310 == t315) || (!(t311 == t316))) = false := by simpa using c40
       clear c40
       (first | rw [c40b0] | (simp only [i64_w, i32_w]; rw [c40b0]) | skip)
       by_cases c46 : t312 = t317
       ·rw [if_pos c46] at H
        have c46b0 : (t312 == t317) = true := beq_iff_eq.mpr c46
        have c46b1 : (t312 != t317) = false := bne_eq_false_iff_eq.mpr c46
        clear c46
        have H' := Aside0.mk H
        clear H
        have hnb47 := NB314_298.out
        have hnc47 := NB298_314.out
        have hnb48 := NB314_319.out
        have hnc48 := NB319_314.out
        obtain ⟨hcz49_0, hcz49_1, hfz49_0, hfz49_1⟩ := bcs2 BK314.out
        have hnb50 := NB319_298.out
        have hnc50 := NB298_319.out
        obtain ⟨hcz51_0, hcz51_1, hfz51_0, hfz51_1⟩ := bcs2 BK319.out
        go_wp2
        go_meet
        case rel => exact ⟨_, ((t313 != t318)), zq10, H', ⟨by have := HJ12.out; first | omega | exact Nat.le_refl _⟩, ⟨(bch1 NB298_319.out BK298.out)⟩, ⟨(bch1 NB314_319.out BK314.out)⟩, ⟨(bch0p BK319.out)⟩, ⟨zq8⟩⟩
       ·rw [if_neg c46] at H
        have c46b0 : (t312 == t317) = false := beq_eq_false_iff_ne.mpr c46
        have c46b1 : (t312 != t317) = true := bne_iff_ne.mpr c46
        have H' := Aside0.mk H
        clear H
        have hnb52 := NB314_298.out
        have hnc52 := NB298_314.out
        have hnb53 := NB314_319.out
        have hnc53 := NB319_314.out
        obtain ⟨hcz54_0, hcz54_1, hfz54_0, hfz54_1⟩ := bcs2 BK314.out
        have hnb55 := NB319_298.out
        have hnc55 := NB298_319.out
        obtain ⟨hcz56_0, hcz56_1, hfz56_0, hfz56_1⟩ := bcs2 BK319.out
        go_wp2
        go_meet
        case rel => exact ⟨_, (true), zq10, H', ⟨by have := HJ12.out; first | omega | exact Nat.le_refl _⟩, ⟨(bch1 NB298_319.out BK298.out)⟩, ⟨(bch1 NB314_319.out BK314.out)⟩, ⟨(bch0p BK319.out)⟩, ⟨zq8⟩⟩
     case rest =>
      clear HC28
      try clear c1
      try clear c2
      try clear p2 p2
      try clear c3
      try clear c4
      try clear c5
      try clear c10
      try clear c11
      try clear c12
      try clear c13
      try clear c15
      try clear c16
      try clear c21
      try clear c21b0
      try clear c21b1
      try clear c25
      try clear c32
      try clear c37
      try clear c38
      try clear c40
      try clear c40b0
      try clear c41
      try clear c42
      try clear c44
      try clear c46
      try clear c46b0
      try clear c46b1
      try clear c47
      try clear c48
      try clear c50
      try clear c52
      try clear c53
      try clear c55
      try clear hcz15_0 hcz15_1 hcz15_2 hfz15_0 hfz15_1 hfz15_2
      try clear hcz17_0 hcz17_1 hcz17_2 hfz17_0 hfz17_1 hfz17_2
      try clear hcz19_0 hcz19_1 hcz19_2 hfz19_0 hfz19_1 hfz19_2
      try clear hcz29_0 hcz29_1 hcz29_2 hfz29_0 hfz29_1 hfz29_2
      try clear hcz33_0 hcz33_1 hfz33_0 hfz33_1
      try clear hcz34_0 hcz34_1 hcz34_2 hfz34_0 hfz34_1 hfz34_2
      try clear hcz39_0 hcz39_1 hfz39_0 hfz39_1
      try clear hcz43_0 hcz43_1 hfz43_0 hfz43_1
      try clear hcz45_0 hcz45_1 hfz45_0 hfz45_1
      try clear hcz49_0 hcz49_1 hfz49_0 hfz49_1
      try clear hcz51_0 hcz51_1 hfz51_0 hfz51_1
      try clear hcz54_0 hcz54_1 hfz54_0 hfz54_1
      try clear hcz56_0 hcz56_1 hfz56_0 hfz56_1
      try clear hcz8_0 hcz8_1 hcz8_2 hfz8_0 hfz8_1 hfz8_2
      obtain ⟨kq, x74_27, rfl, HA, HJ27, BK298, BK314, BK319, HB⟩ := hcut
      cases kq with
      | zero => exact absurd HA.out (by simp [culletlaw07_InspectBlocks.j1])
      | succ kj27 =>
       have H := HA.out
       clear HA
       simp only [culletlaw07_InspectBlocks.j1] at H
       by_cases c57 : x74_27 = true
       ·subst c57
        have H1 : (some false) = some r := by rw [if_pos rfl] at H; exact H
        clear H
        have H := H1
        clear H1
        obtain rfl := Option.some.inj H
        go_wp2
        go_ret
        exact ⟨zq9, zq8⟩
       ·replace c57 := Bool.eq_false_iff.mpr c57
        subst c57
        have H1 : ((inspect_Lots.f a0_0 l0_1 l0_2 l1).bind fun bt320 => ((culletref07_Lots.f kj27 a0_0 l0_1 l0_2 l1).bind fun bt330 => (if bt320.2.2.2 = bt330.2.2.2 then ((culletlaw07_ints.f kj27 bt320.1 bt330.1).bind fun t340 => (if t340 = true then ((culletlaw07_ints.f kj27 bt320.2.1 bt330.2.1).bind fun t341 => (if t341 = true then ((culletlaw07_ints.f kj27 bt320.2.2.1 bt330.2.2.1).bind fun t342 => (if t342 = true then ((culletlaw07_looks.f).bind fun t343 => (some t343)) else (some false))) else (some false))) else (some false))) else (some false)))) = some r := by rw [if_neg (show ¬ (false = true) by decide)] at H; exact H
        clear H
        have H := H1
        clear H1
        replace H := Option.bind_eq_some_iff.mp H
        obtain ⟨⟨t320, t323, t326, t329⟩, A580, H⟩ := H
        replace H : ((culletref07_Lots.f kj27 a0_0 l0_1 l0_2 l1).bind fun bt330 => (if t329 = bt330.2.2.2 then ((culletlaw07_ints.f kj27 t320 bt330.1).bind fun t340 => (if t340 = true then ((culletlaw07_ints.f kj27 t323 bt330.2.1).bind fun t341 => (if t341 = true then ((culletlaw07_ints.f kj27 t326 bt330.2.2.1).bind fun t342 => (if t342 = true then ((culletlaw07_looks.f).bind fun t343 => (some t343)) else (some false))) else (some false))) else (some false))) else (some false))) = some r := H
        have A58 := Aside0.mk A580
        clear A580
        replace H := Option.bind_eq_some_iff.mp H
        obtain ⟨⟨t330, t333, t336, t339⟩, A590, H⟩ := H
        replace H : (if t329 = t339 then ((culletlaw07_ints.f kj27 t320 t330).bind fun t340 => (if t340 = true then ((culletlaw07_ints.f kj27 t323 t333).bind fun t341 => (if t341 = true then ((culletlaw07_ints.f kj27 t326 t336).bind fun t342 => (if t342 = true then ((culletlaw07_looks.f).bind fun t343 => (some t343)) else (some false))) else (some false))) else (some false))) else (some false)) = some r := H
        have A59 := Aside0.mk A590
        clear A590
        by_cases c60 : t329 = t339
        ·rw [if_pos c60] at H
         have c60b0 : (t329 == t339) = true := beq_iff_eq.mpr c60
         have c60b1 : (t329 != t339) = false := bne_eq_false_iff_eq.mpr c60
         clear c60
         replace H := Option.bind_eq_some_iff.mp H
         obtain ⟨t340, A610, H⟩ := H
         replace H : (if t340 = true then ((culletlaw07_ints.f kj27 t323 t333).bind fun t341 => (if t341 = true then ((culletlaw07_ints.f kj27 t326 t336).bind fun t342 => (if t342 = true then ((culletlaw07_looks.f).bind fun t343 => (some t343)) else (some false))) else (some false))) else (some false)) = some r := H
         have A61 := Aside0.mk A610
         clear A610
         by_cases c62 : t340 = true
         ·subst c62
          have H1 : ((culletlaw07_ints.f kj27 t323 t333).bind fun t341 => (if t341 = true then ((culletlaw07_ints.f kj27 t326 t336).bind fun t342 => (if t342 = true then ((culletlaw07_looks.f).bind fun t343 => (some t343)) else (some false))) else (some false))) = some r := by rw [if_pos rfl] at H; exact H
          clear H
          have H := H1
          clear H1
          replace H := Option.bind_eq_some_iff.mp H
          obtain ⟨t341, A630, H⟩ := H
          replace H : (if t341 = true then ((culletlaw07_ints.f kj27 t326 t336).bind fun t342 => (if t342 = true then ((culletlaw07_looks.f).bind fun t343 => (some t343)) else (some false))) else (some false)) = some r := H
          have A63 := Aside0.mk A630
          clear A630
          by_cases c64 : t341 = true
          ·subst c64
           have H1 : ((culletlaw07_ints.f kj27 t326 t336).bind fun t342 => (if t342 = true then ((culletlaw07_looks.f).bind fun t343 => (some t343)) else (some false))) = some r := by rw [if_pos rfl] at H; exact H
           clear H
           have H := H1
           clear H1
           replace H := Option.bind_eq_some_iff.mp H
           obtain ⟨t342, A650, H⟩ := H
           replace H : (if t342 = true then ((culletlaw07_looks.f).bind fun t343 => (some t343)) else (some false)) = some r := H
           have A65 := Aside0.mk A650
           clear A650
           by_cases c66 : t342 = true
           ·subst c66
            have H1 : ((culletlaw07_looks.f).bind fun t343 => (some t343)) = some r := by rw [if_pos rfl] at H; exact H
            clear H
            have H := H1
            clear H1
            replace H := Option.bind_eq_some_iff.mp H
            obtain ⟨t343, A670, H⟩ := H
            replace H : (some t343) = some r := H
            have A67 := Aside0.mk A670
            clear A670
            obtain rfl := Option.some.inj H
            have hnb68 := NB298_314.out
            have hnc68 := NB314_298.out
            have hnb69 := NB298_319.out
            have hnc69 := NB319_298.out
            obtain ⟨hcz70_0, hcz70_1, hcz70_2, hfz70_0, hfz70_1, hfz70_2⟩ := bcs3 BK298.out
            go_wp2_with (first | ((with_reducible refine gate_callee (f := 17) rfl ?_); refine goesL_ (some 78) rfl rfl Try.func17 zq22 rfl #[.agg #[.int .i64 a0_0, .slice A0_1 l0_1.length c0_1, .slice A0_2 l0_2.length c0_2], .slice A1 l1.length c1] rfl zq4 ?_; (with_reducible refine (inspect_Lots.calls a0_0 _ _ l0_1 _ _ l0_2 _ _ l1 t320 t323 t326 t329 _ ?side1 ?side2 ?side3 ?side4 ?side5 ?side6 A58.out).mono ?_); (case side1 => exact zq5); (case side2 => exact HC0_1.out); (case side3 => exact zq6); (case side4 => exact HC0_2.out); (case side5 => exact zq12); (case side6 => exact HC1.out); rintro e w71 ⟨v321, v324, v327, rfl, ho0, ho1, ho2, hb⟩; refine ⟨_, rfl, ?_⟩; have n_ := as7 (Kd.R_lower ho0 (below_size zq8)) (Kd.R_lower ho1 (below_size zq8)) (Kd.R_lower ho2 (below_size zq8)) (blk_below (zq0 BK298.out) hb) (blk_below (zq0 BK314.out) hb) (blk_below (zq0 BK319.out) hb) (below_step zq8 hb); clear BK298 BK314 BK319 HB; obtain ⟨HO322, HO325, HO328, BK298, BK314, BK319, HB⟩ := n_; (try clear hb); (try clear hb2); (try clear hk); (try clear hi); (try clear ho0); (try clear ho1); (try clear ho2); obtain ⟨hcz72_0, hcz72_1, hcz72_2, hfz72_0, hfz72_1, hfz72_2⟩ := bcs3 BK298.out) | ((with_reducible refine gate_callee (f := 18) rfl ?_); refine goesL_ (some 86) rfl rfl Try.func18 zq22 rfl #[.agg #[.int .i64 a0_0, .slice A0_1 l0_1.length c0_1, .slice A0_2 l0_2.length c0_2], .slice A1 l1.length c1] rfl zq4 ?_; (with_reducible refine (culletref07_Lots.calls kj27 a0_0 _ _ l0_1 _ _ l0_2 _ _ l1 t330 t333 t336 t339 _ ?side1 ?side2 ?side3 ?side4 ?side5 ?side6 A59.out).mono ?_); (case side1 => exact zq5); (case side2 => exact HC0_1.out); (case side3 => exact zq6); (case side4 => exact HC0_2.out); (case side5 => exact zq12); (case side6 => exact HC1.out); rintro e w73 ⟨v331, v334, v337, rfl, ho0, ho1, ho2, hb⟩; refine ⟨_, rfl, ?_⟩; have n_ := as10 (Kd.R_mono (Kd.R_told (Kd.R_told (Kd.R_old (zq1 HO322.out) hb) (Kd.R_base ho0)) (Kd.R_base ho2)) (fun _ h_ => h_.1)) (Kd.R_mono (Kd.R_told (Kd.R_told (Kd.R_old (zq1 HO325.out) hb) (Kd.R_base ho0)) (Kd.R_base ho2)) (fun _ h_ => h_.1)) (Kd.R_mono (Kd.R_told (Kd.R_told (Kd.R_old (zq1 HO328.out) hb) (Kd.R_base ho0)) (Kd.R_base ho2)) (fun _ h_ => h_.1)) (Kd.R_lower (Kd.R_new' (Kd.R_new' (Kd.R_new' (Kd.R_mono (ok' := fun k_ => some k_ ≠ (v337 : Value).ownBlock) ho0 (fun _ hk_ => hk_.2)) (Kd.R_lt (zq1 HO322.out))) (Kd.R_lt (zq1 HO325.out))) (Kd.R_lt (zq1 HO328.out))) (below_size zq8)) (Kd.V_lower (Kd.V_mono (ok' := fun k_ => some k_ ≠ (v331 : Value).ownBlock ∧ some k_ ≠ (v337 : Value).ownBlock ∧ some k_ ≠ (v321 : Value).ownBlock ∧ some k_ ≠ (v324 : Value).ownBlock ∧ some k_ ≠ (v327 : Value).ownBlock ∧ k_ ≠ gb298 ∧ k_ ≠ gb314 ∧ k_ ≠ gb319) ho1 (fun k_ hk_ => ⟨hk_.2.1, hk_.2.2, (Kd.fresh' (Kd.R_lt (zq1 HO322.out)) k_ hk_.1), (Kd.fresh' (Kd.R_lt (zq1 HO325.out)) k_ hk_.1), (Kd.fresh' (Kd.R_lt (zq1 HO328.out)) k_ hk_.1), (Kd.freshB (zq0 BK298.out) k_ hk_.1), (Kd.freshB (zq0 BK314.out) k_ hk_.1), (Kd.freshB (zq0 BK319.out) k_ hk_.1)⟩)) (below_size zq8)) (Kd.R_lower (Kd.R_new' (Kd.R_new' (Kd.R_new' (Kd.R_mono (ok' := fun k_ => some k_ ≠ (v331 : Value).ownBlock) ho2 (fun _ hk_ => hk_.2)) (Kd.R_lt (zq1 HO322.out))) (Kd.R_lt (zq1 HO325.out))) (Kd.R_lt (zq1 HO328.out))) (below_size zq8)) (blk_below (zq0 BK298.out) hb) (blk_below (zq0 BK314.out) hb) (blk_below (zq0 BK319.out) hb) (below_step zq8 hb); clear HO322 HO325 HO328 BK298 BK314 BK319 HB; obtain ⟨HO322, HO325, HO328, HO332, HO335, HO338, BK298, BK314, BK319, HB⟩ := n_; (try clear hb); (try clear hb2); (try clear hk); (try clear hi); (try clear ho0); (try clear ho1); (try clear ho2); obtain ⟨Ao74, co74, eo74⟩ := Kd.R_slice HO322.out; subst eo74; obtain ⟨Ao75, co75, eo75⟩ := Kd.R_slice HO332.out; subst eo75) | (go_at_call 14; (with_reducible refine (culletlaw07_ints.calls kj27 _ _ t320 _ _ t330 true _ ?side1 ?side2 ?side3 ?side4 A61.out).mono ?_); (case side1 => exact zq70); (case side2 => exact (Kd.R_reads' HO322.out).2.1); (case side3 => exact zq71); (case side4 => exact (Kd.R_reads' HO332.out).2.1); rintro e w' ⟨rfl, ⟨nd, rfl⟩⟩; obtain ⟨Ao76, co76, eo76⟩ := Kd.R_slice HO325.out; subst eo76; obtain ⟨Ao77, co77, eo77⟩ := Kd.V_slice HO335.out; subst eo77) | (go_at_call 14; (with_reducible refine (culletlaw07_ints.calls kj27 _ _ t323 _ _ t333 true _ ?side1 ?side2 ?side3 ?side4 A63.out).mono ?_); (case side1 => exact zq96); (case side2 => exact (Kd.R_reads' HO325.out).2.1); (case side3 => exact zq97); (case side4 => exact (Kd.V_reads' HO335.out).2.1); rintro e w' ⟨rfl, ⟨nd, rfl⟩⟩; obtain ⟨Ao78, co78, eo78⟩ := Kd.R_slice HO328.out; subst eo78; obtain ⟨Ao79, co79, eo79⟩ := Kd.R_slice HO338.out; subst eo79) | (go_at_call 14; (with_reducible refine (culletlaw07_ints.calls kj27 _ _ t326 _ _ t336 true _ ?side1 ?side2 ?side3 ?side4 A65.out).mono ?_); (case side1 => exact zq125); (case side2 => exact (Kd.R_reads' HO328.out).2.1); (case side3 => exact zq126); (case side4 => exact (Kd.R_reads' HO338.out).2.1); rintro e w' ⟨rfl, ⟨nd, rfl⟩⟩) | (go_at_call 11; (with_reducible refine (culletlaw07_looks.calls  t343 _ A67.out).mono ?_); rintro e w80 ⟨rfl, hb⟩; have n_ := as10 (Kd.R_below (zq1 HO322.out) hb) (Kd.R_below (zq1 HO325.out) hb) (Kd.R_below (zq1 HO328.out) hb) (Kd.R_below (zq1 HO332.out) hb) (Kd.V_below (zq2 HO335.out) hb) (Kd.R_below (zq1 HO338.out) hb) (blk_below (zq0 BK298.out) hb) (blk_below (zq0 BK314.out) hb) (blk_below (zq0 BK319.out) hb) (below_step zq8 hb); clear HO322 HO325 HO328 HO332 HO335 HO338 BK298 BK314 BK319 HB; obtain ⟨HO322, HO325, HO328, HO332, HO335, HO338, BK298, BK314, BK319, HB⟩ := n_; (try clear hb); (try clear hb2); (try clear hk); (try clear hi)))
            go_ret
            exact ⟨zq9, zq8⟩
           ·replace c66 := Bool.eq_false_iff.mpr c66
            subst c66
            have H1 : (some false) = some r := by rw [if_neg (show ¬ (false = true) by decide)] at H; exact H
            clear H
            have H := H1
            clear H1
            obtain rfl := Option.some.inj H
            have hnb81 := NB298_314.out
            have hnc81 := NB314_298.out
            have hnb82 := NB298_319.out
            have hnc82 := NB319_298.out
            obtain ⟨hcz83_0, hcz83_1, hcz83_2, hfz83_0, hfz83_1, hfz83_2⟩ := bcs3 BK298.out
            go_wp2_with (first | ((with_reducible refine gate_callee (f := 17) rfl ?_); refine goesL_ (some 78) rfl rfl Try.func17 zq22 rfl #[.agg #[.int .i64 a0_0, .slice A0_1 l0_1.length c0_1, .slice A0_2 l0_2.length c0_2], .slice A1 l1.length c1] rfl zq4 ?_; (with_reducible refine (inspect_Lots.calls a0_0 _ _ l0_1 _ _ l0_2 _ _ l1 t320 t323 t326 t329 _ ?side1 ?side2 ?side3 ?side4 ?side5 ?side6 A58.out).mono ?_); (case side1 => exact zq5); (case side2 => exact HC0_1.out); (case side3 => exact zq6); (case side4 => exact HC0_2.out); (case side5 => exact zq12); (case side6 => exact HC1.out); rintro e w84 ⟨v321, v324, v327, rfl, ho0, ho1, ho2, hb⟩; refine ⟨_, rfl, ?_⟩; have n_ := as7 (Kd.R_lower ho0 (below_size zq8)) (Kd.R_lower ho1 (below_size zq8)) (Kd.R_lower ho2 (below_size zq8)) (blk_below (zq0 BK298.out) hb) (blk_below (zq0 BK314.out) hb) (blk_below (zq0 BK319.out) hb) (below_step zq8 hb); clear BK298 BK314 BK319 HB; obtain ⟨HO322, HO325, HO328, BK298, BK314, BK319, HB⟩ := n_; (try clear hb); (try clear hb2); (try clear hk); (try clear hi); (try clear ho0); (try clear ho1); (try clear ho2); obtain ⟨hcz85_0, hcz85_1, hcz85_2, hfz85_0, hfz85_1, hfz85_2⟩ := bcs3 BK298.out) | ((with_reducible refine gate_callee (f := 18) rfl ?_); refine goesL_ (some 86) rfl rfl Try.func18 zq22 rfl #[.agg #[.int .i64 a0_0, .slice A0_1 l0_1.length c0_1, .slice A0_2 l0_2.length c0_2], .slice A1 l1.length c1] rfl zq4 ?_; (with_reducible refine (culletref07_Lots.calls kj27 a0_0 _ _ l0_1 _ _ l0_2 _ _ l1 t330 t333 t336 t339 _ ?side1 ?side2 ?side3 ?side4 ?side5 ?side6 A59.out).mono ?_); (case side1 => exact zq5); (case side2 => exact HC0_1.out); (case side3 => exact zq6); (case side4 => exact HC0_2.out); (case side5 => exact zq12); (case side6 => exact HC1.out); rintro e w86 ⟨v331, v334, v337, rfl, ho0, ho1, ho2, hb⟩; refine ⟨_, rfl, ?_⟩; have n_ := as10 (Kd.R_mono (Kd.R_told (Kd.R_told (Kd.R_old (zq1 HO322.out) hb) (Kd.R_base ho0)) (Kd.R_base ho2)) (fun _ h_ => h_.1)) (Kd.R_mono (Kd.R_told (Kd.R_told (Kd.R_old (zq1 HO325.out) hb) (Kd.R_base ho0)) (Kd.R_base ho2)) (fun _ h_ => h_.1)) (Kd.R_mono (Kd.R_told (Kd.R_told (Kd.R_old (zq1 HO328.out) hb) (Kd.R_base ho0)) (Kd.R_base ho2)) (fun _ h_ => h_.1)) (Kd.R_lower (Kd.R_new' (Kd.R_new' (Kd.R_new' (Kd.R_mono (ok' := fun k_ => some k_ ≠ (v337 : Value).ownBlock) ho0 (fun _ hk_ => hk_.2)) (Kd.R_lt (zq1 HO322.out))) (Kd.R_lt (zq1 HO325.out))) (Kd.R_lt (zq1 HO328.out))) (below_size zq8)) (Kd.V_lower (Kd.V_mono (ok' := fun k_ => some k_ ≠ (v331 : Value).ownBlock ∧ some k_ ≠ (v337 : Value).ownBlock ∧ some k_ ≠ (v321 : Value).ownBlock ∧ some k_ ≠ (v324 : Value).ownBlock ∧ some k_ ≠ (v327 : Value).ownBlock ∧ k_ ≠ gb298 ∧ k_ ≠ gb314 ∧ k_ ≠ gb319) ho1 (fun k_ hk_ => ⟨hk_.2.1, hk_.2.2, (Kd.fresh' (Kd.R_lt (zq1 HO322.out)) k_ hk_.1), (Kd.fresh' (Kd.R_lt (zq1 HO325.out)) k_ hk_.1), (Kd.fresh' (Kd.R_lt (zq1 HO328.out)) k_ hk_.1), (Kd.freshB (zq0 BK298.out) k_ hk_.1), (Kd.freshB (zq0 BK314.out) k_ hk_.1), (Kd.freshB (zq0 BK319.out) k_ hk_.1)⟩)) (below_size zq8)) (Kd.R_lower (Kd.R_new' (Kd.R_new' (Kd.R_new' (Kd.R_mono (ok' := fun k_ => some k_ ≠ (v331 : Value).ownBlock) ho2 (fun _ hk_ => hk_.2)) (Kd.R_lt (zq1 HO322.out))) (Kd.R_lt (zq1 HO325.out))) (Kd.R_lt (zq1 HO328.out))) (below_size zq8)) (blk_below (zq0 BK298.out) hb) (blk_below (zq0 BK314.out) hb) (blk_below (zq0 BK319.out) hb) (below_step zq8 hb); clear HO322 HO325 HO328 BK298 BK314 BK319 HB; obtain ⟨HO322, HO325, HO328, HO332, HO335, HO338, BK298, BK314, BK319, HB⟩ := n_; (try clear hb); (try clear hb2); (try clear hk); (try clear hi); (try clear ho0); (try clear ho1); (try clear ho2); obtain ⟨Ao87, co87, eo87⟩ := Kd.R_slice HO322.out; subst eo87; obtain ⟨Ao88, co88, eo88⟩ := Kd.R_slice HO332.out; subst eo88) | (go_at_call 14; (with_reducible refine (culletlaw07_ints.calls kj27 _ _ t320 _ _ t330 true _ ?side1 ?side2 ?side3 ?side4 A61.out).mono ?_); (case side1 => exact zq70); (case side2 => exact (Kd.R_reads' HO322.out).2.1); (case side3 => exact zq71); (case side4 => exact (Kd.R_reads' HO332.out).2.1); rintro e w' ⟨rfl, ⟨nd, rfl⟩⟩; obtain ⟨Ao89, co89, eo89⟩ := Kd.R_slice HO325.out; subst eo89; obtain ⟨Ao90, co90, eo90⟩ := Kd.V_slice HO335.out; subst eo90) | (go_at_call 14; (with_reducible refine (culletlaw07_ints.calls kj27 _ _ t323 _ _ t333 true _ ?side1 ?side2 ?side3 ?side4 A63.out).mono ?_); (case side1 => exact zq96); (case side2 => exact (Kd.R_reads' HO325.out).2.1); (case side3 => exact zq97); (case side4 => exact (Kd.V_reads' HO335.out).2.1); rintro e w' ⟨rfl, ⟨nd, rfl⟩⟩; obtain ⟨Ao91, co91, eo91⟩ := Kd.R_slice HO328.out; subst eo91; obtain ⟨Ao92, co92, eo92⟩ := Kd.R_slice HO338.out; subst eo92) | (go_at_call 14; (with_reducible refine (culletlaw07_ints.calls kj27 _ _ t326 _ _ t336 false _ ?side1 ?side2 ?side3 ?side4 A65.out).mono ?_); (case side1 => exact zq125); (case side2 => exact (Kd.R_reads' HO328.out).2.1); (case side3 => exact zq126); (case side4 => exact (Kd.R_reads' HO338.out).2.1); rintro e w' ⟨rfl, ⟨nd, rfl⟩⟩))
            go_ret
            exact ⟨zq9, zq8⟩
          ·replace c64 := Bool.eq_false_iff.mpr c64
           subst c64
           have H1 : (some false) = some r := by rw [if_neg (show ¬ (false = true) by decide)] at H; exact H
           clear H
           have H := H1
           clear H1
           obtain rfl := Option.some.inj H
           have hnb93 := NB298_314.out
           have hnc93 := NB314_298.out
           have hnb94 := NB298_319.out
           have hnc94 := NB319_298.out
           obtain ⟨hcz95_0, hcz95_1, hcz95_2, hfz95_0, hfz95_1, hfz95_2⟩ := bcs3 BK298.out
           go_wp2_with (first | ((with_reducible refine gate_callee (f := 17) rfl ?_); refine goesL_ (some 78) rfl rfl Try.func17 zq22 rfl #[.agg #[.int .i64 a0_0, .slice A0_1 l0_1.length c0_1, .slice A0_2 l0_2.length c0_2], .slice A1 l1.length c1] rfl zq4 ?_; (with_reducible refine (inspect_Lots.calls a0_0 _ _ l0_1 _ _ l0_2 _ _ l1 t320 t323 t326 t329 _ ?side1 ?side2 ?side3 ?side4 ?side5 ?side6 A58.out).mono ?_); (case side1 => exact zq5); (case side2 => exact HC0_1.out); (case side3 => exact zq6); (case side4 => exact HC0_2.out); (case side5 => exact zq12); (case side6 => exact HC1.out); rintro e w96 ⟨v321, v324, v327, rfl, ho0, ho1, ho2, hb⟩; refine ⟨_, rfl, ?_⟩; have n_ := as7 (Kd.R_lower ho0 (below_size zq8)) (Kd.R_lower ho1 (below_size zq8)) (Kd.R_lower ho2 (below_size zq8)) (blk_below (zq0 BK298.out) hb) (blk_below (zq0 BK314.out) hb) (blk_below (zq0 BK319.out) hb) (below_step zq8 hb); clear BK298 BK314 BK319 HB; obtain ⟨HO322, HO325, HO328, BK298, BK314, BK319, HB⟩ := n_; (try clear hb); (try clear hb2); (try clear hk); (try clear hi); (try clear ho0); (try clear ho1); (try clear ho2); obtain ⟨hcz97_0, hcz97_1, hcz97_2, hfz97_0, hfz97_1, hfz97_2⟩ := bcs3 BK298.out) | ((with_reducible refine gate_callee (f := 18) rfl ?_); refine goesL_ (some 86) rfl rfl Try.func18 zq22 rfl #[.agg #[.int .i64 a0_0, .slice A0_1 l0_1.length c0_1, .slice A0_2 l0_2.length c0_2], .slice A1 l1.length c1] rfl zq4 ?_; (with_reducible refine (culletref07_Lots.calls kj27 a0_0 _ _ l0_1 _ _ l0_2 _ _ l1 t330 t333 t336 t339 _ ?side1 ?side2 ?side3 ?side4 ?side5 ?side6 A59.out).mono ?_); (case side1 => exact zq5); (case side2 => exact HC0_1.out); (case side3 => exact zq6); (case side4 => exact HC0_2.out); (case side5 => exact zq12); (case side6 => exact HC1.out); rintro e w98 ⟨v331, v334, v337, rfl, ho0, ho1, ho2, hb⟩; refine ⟨_, rfl, ?_⟩; have n_ := as10 (Kd.R_mono (Kd.R_told (Kd.R_told (Kd.R_old (zq1 HO322.out) hb) (Kd.R_base ho0)) (Kd.R_base ho2)) (fun _ h_ => h_.1)) (Kd.R_mono (Kd.R_told (Kd.R_told (Kd.R_old (zq1 HO325.out) hb) (Kd.R_base ho0)) (Kd.R_base ho2)) (fun _ h_ => h_.1)) (Kd.R_mono (Kd.R_told (Kd.R_told (Kd.R_old (zq1 HO328.out) hb) (Kd.R_base ho0)) (Kd.R_base ho2)) (fun _ h_ => h_.1)) (Kd.R_lower (Kd.R_new' (Kd.R_new' (Kd.R_new' (Kd.R_mono (ok' := fun k_ => some k_ ≠ (v337 : Value).ownBlock) ho0 (fun _ hk_ => hk_.2)) (Kd.R_lt (zq1 HO322.out))) (Kd.R_lt (zq1 HO325.out))) (Kd.R_lt (zq1 HO328.out))) (below_size zq8)) (Kd.V_lower (Kd.V_mono (ok' := fun k_ => some k_ ≠ (v331 : Value).ownBlock ∧ some k_ ≠ (v337 : Value).ownBlock ∧ some k_ ≠ (v321 : Value).ownBlock ∧ some k_ ≠ (v324 : Value).ownBlock ∧ some k_ ≠ (v327 : Value).ownBlock ∧ k_ ≠ gb298 ∧ k_ ≠ gb314 ∧ k_ ≠ gb319) ho1 (fun k_ hk_ => ⟨hk_.2.1, hk_.2.2, (Kd.fresh' (Kd.R_lt (zq1 HO322.out)) k_ hk_.1), (Kd.fresh' (Kd.R_lt (zq1 HO325.out)) k_ hk_.1), (Kd.fresh' (Kd.R_lt (zq1 HO328.out)) k_ hk_.1), (Kd.freshB (zq0 BK298.out) k_ hk_.1), (Kd.freshB (zq0 BK314.out) k_ hk_.1), (Kd.freshB (zq0 BK319.out) k_ hk_.1)⟩)) (below_size zq8)) (Kd.R_lower (Kd.R_new' (Kd.R_new' (Kd.R_new' (Kd.R_mono (ok' := fun k_ => some k_ ≠ (v331 : Value).ownBlock) ho2 (fun _ hk_ => hk_.2)) (Kd.R_lt (zq1 HO322.out))) (Kd.R_lt (zq1 HO325.out))) (Kd.R_lt (zq1 HO328.out))) (below_size zq8)) (blk_below (zq0 BK298.out) hb) (blk_below (zq0 BK314.out) hb) (blk_below (zq0 BK319.out) hb) (below_step zq8 hb); clear HO322 HO325 HO328 BK298 BK314 BK319 HB; obtain ⟨HO322, HO325, HO328, HO332, HO335, HO338, BK298, BK314, BK319, HB⟩ := n_; (try clear hb); (try clear hb2); (try clear hk); (try clear hi); (try clear ho0); (try clear ho1); (try clear ho2); obtain ⟨Ao99, co99, eo99⟩ := Kd.R_slice HO322.out; subst eo99; obtain ⟨Ao100, co100, eo100⟩ := Kd.R_slice HO332.out; subst eo100) | (go_at_call 14; (with_reducible refine (culletlaw07_ints.calls kj27 _ _ t320 _ _ t330 true _ ?side1 ?side2 ?side3 ?side4 A61.out).mono ?_); (case side1 => exact zq70); (case side2 => exact (Kd.R_reads' HO322.out).2.1); (case side3 => exact zq71); (case side4 => exact (Kd.R_reads' HO332.out).2.1); rintro e w' ⟨rfl, ⟨nd, rfl⟩⟩; obtain ⟨Ao101, co101, eo101⟩ := Kd.R_slice HO325.out; subst eo101; obtain ⟨Ao102, co102, eo102⟩ := Kd.V_slice HO335.out; subst eo102) | (go_at_call 14; (with_reducible refine (culletlaw07_ints.calls kj27 _ _ t323 _ _ t333 false _ ?side1 ?side2 ?side3 ?side4 A63.out).mono ?_); (case side1 => exact zq96); (case side2 => exact (Kd.R_reads' HO325.out).2.1); (case side3 => exact zq97); (case side4 => exact (Kd.V_reads' HO335.out).2.1); rintro e w' ⟨rfl, ⟨nd, rfl⟩⟩))
           go_ret
           exact ⟨zq9, zq8⟩
         ·replace c62 := Bool.eq_false_iff.mpr c62
          subst c62
          have H1 : (some false) = some r := by rw [if_neg (show ¬ (false = true) by decide)] at H; exact H
          clear H
          have H := H1
          clear H1
          obtain rfl := Option.some.inj H
          have hnb103 := NB298_314.out
          have hnc103 := NB314_298.out
          have hnb104 := NB298_319.out
          have hnc104 := NB319_298.out
          obtain ⟨hcz105_0, hcz105_1, hcz105_2, hfz105_0, hfz105_1, hfz105_2⟩ := bcs3 BK298.out
          go_wp2_with (first | ((with_reducible refine gate_callee (f := 17) rfl ?_); refine goesL_ (some 78) rfl rfl Try.func17 zq22 rfl #[.agg #[.int .i64 a0_0, .slice A0_1 l0_1.length c0_1, .slice A0_2 l0_2.length c0_2], .slice A1 l1.length c1] rfl zq4 ?_; (with_reducible refine (inspect_Lots.calls a0_0 _ _ l0_1 _ _ l0_2 _ _ l1 t320 t323 t326 t329 _ ?side1 ?side2 ?side3 ?side4 ?side5 ?side6 A58.out).mono ?_); (case side1 => exact zq5); (case side2 => exact HC0_1.out); (case side3 => exact zq6); (case side4 => exact HC0_2.out); (case side5 => exact zq12); (case side6 => exact HC1.out); rintro e w106 ⟨v321, v324, v327, rfl, ho0, ho1, ho2, hb⟩; refine ⟨_, rfl, ?_⟩; have n_ := as7 (Kd.R_lower ho0 (below_size zq8)) (Kd.R_lower ho1 (below_size zq8)) (Kd.R_lower ho2 (below_size zq8)) (blk_below (zq0 BK298.out) hb) (blk_below (zq0 BK314.out) hb) (blk_below (zq0 BK319.out) hb) (below_step zq8 hb); clear BK298 BK314 BK319 HB; obtain ⟨HO322, HO325, HO328, BK298, BK314, BK319, HB⟩ := n_; (try clear hb); (try clear hb2); (try clear hk); (try clear hi); (try clear ho0); (try clear ho1); (try clear ho2); obtain ⟨hcz107_0, hcz107_1, hcz107_2, hfz107_0, hfz107_1, hfz107_2⟩ := bcs3 BK298.out) | ((with_reducible refine gate_callee (f := 18) rfl ?_); refine goesL_ (some 86) rfl rfl Try.func18 zq22 rfl #[.agg #[.int .i64 a0_0, .slice A0_1 l0_1.length c0_1, .slice A0_2 l0_2.length c0_2], .slice A1 l1.length c1] rfl zq4 ?_; (with_reducible refine (culletref07_Lots.calls kj27 a0_0 _ _ l0_1 _ _ l0_2 _ _ l1 t330 t333 t336 t339 _ ?side1 ?side2 ?side3 ?side4 ?side5 ?side6 A59.out).mono ?_); (case side1 => exact zq5); (case side2 => exact HC0_1.out); (case side3 => exact zq6); (case side4 => exact HC0_2.out); (case side5 => exact zq12); (case side6 => exact HC1.out); rintro e w108 ⟨v331, v334, v337, rfl, ho0, ho1, ho2, hb⟩; refine ⟨_, rfl, ?_⟩; have n_ := as10 (Kd.R_mono (Kd.R_told (Kd.R_told (Kd.R_old (zq1 HO322.out) hb) (Kd.R_base ho0)) (Kd.R_base ho2)) (fun _ h_ => h_.1)) (Kd.R_mono (Kd.R_told (Kd.R_told (Kd.R_old (zq1 HO325.out) hb) (Kd.R_base ho0)) (Kd.R_base ho2)) (fun _ h_ => h_.1)) (Kd.R_mono (Kd.R_told (Kd.R_told (Kd.R_old (zq1 HO328.out) hb) (Kd.R_base ho0)) (Kd.R_base ho2)) (fun _ h_ => h_.1)) (Kd.R_lower (Kd.R_new' (Kd.R_new' (Kd.R_new' (Kd.R_mono (ok' := fun k_ => some k_ ≠ (v337 : Value).ownBlock) ho0 (fun _ hk_ => hk_.2)) (Kd.R_lt (zq1 HO322.out))) (Kd.R_lt (zq1 HO325.out))) (Kd.R_lt (zq1 HO328.out))) (below_size zq8)) (Kd.V_lower (Kd.V_mono (ok' := fun k_ => some k_ ≠ (v331 : Value).ownBlock ∧ some k_ ≠ (v337 : Value).ownBlock ∧ some k_ ≠ (v321 : Value).ownBlock ∧ some k_ ≠ (v324 : Value).ownBlock ∧ some k_ ≠ (v327 : Value).ownBlock ∧ k_ ≠ gb298 ∧ k_ ≠ gb314 ∧ k_ ≠ gb319) ho1 (fun k_ hk_ => ⟨hk_.2.1, hk_.2.2, (Kd.fresh' (Kd.R_lt (zq1 HO322.out)) k_ hk_.1), (Kd.fresh' (Kd.R_lt (zq1 HO325.out)) k_ hk_.1), (Kd.fresh' (Kd.R_lt (zq1 HO328.out)) k_ hk_.1), (Kd.freshB (zq0 BK298.out) k_ hk_.1), (Kd.freshB (zq0 BK314.out) k_ hk_.1), (Kd.freshB (zq0 BK319.out) k_ hk_.1)⟩)) (below_size zq8)) (Kd.R_lower (Kd.R_new' (Kd.R_new' (Kd.R_new' (Kd.R_mono (ok' := fun k_ => some k_ ≠ (v331 : Value).ownBlock) ho2 (fun _ hk_ => hk_.2)) (Kd.R_lt (zq1 HO322.out))) (Kd.R_lt (zq1 HO325.out))) (Kd.R_lt (zq1 HO328.out))) (below_size zq8)) (blk_below (zq0 BK298.out) hb) (blk_below (zq0 BK314.out) hb) (blk_below (zq0 BK319.out) hb) (below_step zq8 hb); clear HO322 HO325 HO328 BK298 BK314 BK319 HB; obtain ⟨HO322, HO325, HO328, HO332, HO335, HO338, BK298, BK314, BK319, HB⟩ := n_; (try clear hb); (try clear hb2); (try clear hk); (try clear hi); (try clear ho0); (try clear ho1); (try clear ho2); obtain ⟨Ao109, co109, eo109⟩ := Kd.R_slice HO322.out; subst eo109; obtain ⟨Ao110, co110, eo110⟩ := Kd.R_slice HO332.out; subst eo110) | (go_at_call 14; (with_reducible refine (culletlaw07_ints.calls kj27 _ _ t320 _ _ t330 false _ ?side1 ?side2 ?side3 ?side4 A61.out).mono ?_); (case side1 => exact zq70); (case side2 => exact (Kd.R_reads' HO322.out).2.1); (case side3 => exact zq71); (case side4 => exact (Kd.R_reads' HO332.out).2.1); rintro e w' ⟨rfl, ⟨nd, rfl⟩⟩))
          go_ret
          exact ⟨zq9, zq8⟩
        ·rw [if_neg c60] at H
         have c60b0 : (t329 == t339) = false := beq_eq_false_iff_ne.mpr c60
         have c60b1 : (t329 != t339) = true := bne_iff_ne.mpr c60
         obtain rfl := Option.some.inj H
         have hnb111 := NB298_314.out
         have hnc111 := NB314_298.out
         have hnb112 := NB298_319.out
         have hnc112 := NB319_298.out
         obtain ⟨hcz113_0, hcz113_1, hcz113_2, hfz113_0, hfz113_1, hfz113_2⟩ := bcs3 BK298.out
         go_wp2_with (first | ((with_reducible refine gate_callee (f := 17) rfl ?_); refine goesL_ (some 78) rfl rfl Try.func17 zq22 rfl #[.agg #[.int .i64 a0_0, .slice A0_1 l0_1.length c0_1, .slice A0_2 l0_2.length c0_2], .slice A1 l1.length c1] rfl zq4 ?_; (with_reducible refine (inspect_Lots.calls a0_0 _ _ l0_1 _ _ l0_2 _ _ l1 t320 t323 t326 t329 _ ?side1 ?side2 ?side3 ?side4 ?side5 ?side6 A58.out).mono ?_); (case side1 => exact zq5); (case side2 => exact HC0_1.out); (case side3 => exact zq6); (case side4 => exact HC0_2.out); (case side5 => exact zq12); (case side6 => exact HC1.out); rintro e w114 ⟨v321, v324, v327, rfl, ho0, ho1, ho2, hb⟩; refine ⟨_, rfl, ?_⟩; have n_ := as7 (Kd.R_lower ho0 (below_size zq8)) (Kd.R_lower ho1 (below_size zq8)) (Kd.R_lower ho2 (below_size zq8)) (blk_below (zq0 BK298.out) hb) (blk_below (zq0 BK314.out) hb) (blk_below (zq0 BK319.out) hb) (below_step zq8 hb); clear BK298 BK314 BK319 HB; obtain ⟨HO322, HO325, HO328, BK298, BK314, BK319, HB⟩ := n_; (try clear hb); (try clear hb2); (try clear hk); (try clear hi); (try clear ho0); (try clear ho1); (try clear ho2); obtain ⟨hcz115_0, hcz115_1, hcz115_2, hfz115_0, hfz115_1, hfz115_2⟩ := bcs3 BK298.out) | ((with_reducible refine gate_callee (f := 18) rfl ?_); refine goesL_ (some 86) rfl rfl Try.func18 zq22 rfl #[.agg #[.int .i64 a0_0, .slice A0_1 l0_1.length c0_1, .slice A0_2 l0_2.length c0_2], .slice A1 l1.length c1] rfl zq4 ?_; (with_reducible refine (culletref07_Lots.calls kj27 a0_0 _ _ l0_1 _ _ l0_2 _ _ l1 t330 t333 t336 t339 _ ?side1 ?side2 ?side3 ?side4 ?side5 ?side6 A59.out).mono ?_); (case side1 => exact zq5); (case side2 => exact HC0_1.out); (case side3 => exact zq6); (case side4 => exact HC0_2.out); (case side5 => exact zq12); (case side6 => exact HC1.out); rintro e w116 ⟨v331, v334, v337, rfl, ho0, ho1, ho2, hb⟩; refine ⟨_, rfl, ?_⟩; have n_ := as10 (Kd.R_mono (Kd.R_told (Kd.R_told (Kd.R_old (zq1 HO322.out) hb) (Kd.R_base ho0)) (Kd.R_base ho2)) (fun _ h_ => h_.1)) (Kd.R_mono (Kd.R_told (Kd.R_told (Kd.R_old (zq1 HO325.out) hb) (Kd.R_base ho0)) (Kd.R_base ho2)) (fun _ h_ => h_.1)) (Kd.R_mono (Kd.R_told (Kd.R_told (Kd.R_old (zq1 HO328.out) hb) (Kd.R_base ho0)) (Kd.R_base ho2)) (fun _ h_ => h_.1)) (Kd.R_lower (Kd.R_new' (Kd.R_new' (Kd.R_new' (Kd.R_mono (ok' := fun k_ => some k_ ≠ (v337 : Value).ownBlock) ho0 (fun _ hk_ => hk_.2)) (Kd.R_lt (zq1 HO322.out))) (Kd.R_lt (zq1 HO325.out))) (Kd.R_lt (zq1 HO328.out))) (below_size zq8)) (Kd.V_lower (Kd.V_mono (ok' := fun k_ => some k_ ≠ (v331 : Value).ownBlock ∧ some k_ ≠ (v337 : Value).ownBlock ∧ some k_ ≠ (v321 : Value).ownBlock ∧ some k_ ≠ (v324 : Value).ownBlock ∧ some k_ ≠ (v327 : Value).ownBlock ∧ k_ ≠ gb298 ∧ k_ ≠ gb314 ∧ k_ ≠ gb319) ho1 (fun k_ hk_ => ⟨hk_.2.1, hk_.2.2, (Kd.fresh' (Kd.R_lt (zq1 HO322.out)) k_ hk_.1), (Kd.fresh' (Kd.R_lt (zq1 HO325.out)) k_ hk_.1), (Kd.fresh' (Kd.R_lt (zq1 HO328.out)) k_ hk_.1), (Kd.freshB (zq0 BK298.out) k_ hk_.1), (Kd.freshB (zq0 BK314.out) k_ hk_.1), (Kd.freshB (zq0 BK319.out) k_ hk_.1)⟩)) (below_size zq8)) (Kd.R_lower (Kd.R_new' (Kd.R_new' (Kd.R_new' (Kd.R_mono (ok' := fun k_ => some k_ ≠ (v331 : Value).ownBlock) ho2 (fun _ hk_ => hk_.2)) (Kd.R_lt (zq1 HO322.out))) (Kd.R_lt (zq1 HO325.out))) (Kd.R_lt (zq1 HO328.out))) (below_size zq8)) (blk_below (zq0 BK298.out) hb) (blk_below (zq0 BK314.out) hb) (blk_below (zq0 BK319.out) hb) (below_step zq8 hb); clear HO322 HO325 HO328 BK298 BK314 BK319 HB; obtain ⟨HO322, HO325, HO328, HO332, HO335, HO338, BK298, BK314, BK319, HB⟩ := n_; (try clear hb); (try clear hb2); (try clear hk); (try clear hi); (try clear ho0); (try clear ho1); (try clear ho2)))
         go_ret
         exact ⟨zq9, zq8⟩
theorem blocks_pure (a0 : Int) (fl : List S58) (st : List S56) (l : List S45) (a2 : Int) : culletlaw07_InspectBlocks.f 5000000000000 a0 fl st l a2 = some true := by
 obtain ⟨b, hb, _⟩ := many_some a0 fl st l 5000000000000 zq17
 unfold culletlaw07_InspectBlocks.f
 rw [hb, Option.bind_some]
 cases b
 ·rw [if_neg zq56, rBlocked_eq a0 fl st l 5000000000000 zq17]
  unfold inspect_Blocked.f
  simp only [Option.bind_some, if_true]
  have hlen : l.length ≤ 1000 ∨ logS a0 fl st l ≠ 0 := by
   by_cases h : logS a0 fl st l = 0
   ·exact .inl (by have := (logS_valid h).len; omega)
   ·exact .inr h
  have hpl := posP_len a0 fl st l 3 l.length
  have hll := lotsP_len l l.length
  have h1 : (blockedF a0 fl st l).1.length ≤ 1000 := by
   unfold blockedF
   by_cases h : logS a0 fl st l ≠ 0
   ·rw [if_pos h]; simp
   ·rw [if_neg h]; simp only; omega
  have h2 : (lotsF a0 fl st l).1.length ≤ 1000 ∧ (lotsF a0 fl st l).2.1.length ≤ 1000 ∧ (lotsF a0 fl st l).2.2.1.length ≤ 1000 := by
   unfold lotsF
   by_cases h : logS a0 fl st l ≠ 0
   ·rw [if_pos h]; simp
   ·rw [if_neg h]
    have hl := (hlen.resolve_right h)
    exact ⟨Nat.le_trans (List.length_filter_le _ _) zq17, Nat.le_trans (List.length_filter_le _ _) zq17, Nat.le_trans (List.length_filter_le _ _) zq17⟩
  rw [ints_self _ h1 _ zq17, Option.bind_some, Bool.not_true, culletlaw07_InspectBlocks.j0, if_neg zq56, rMissed_eq a0 fl st l a2 _ zq17]
  unfold inspect_Missed.f
  simp only [Option.bind_some, beq_self_eq_true, Bool.not_true, Bool.or_false, if_true, bne_self_eq_false]
  rw [if_neg zq56, culletlaw07_InspectBlocks.j1, if_neg zq56, rLots_eq a0 fl st l _ zq17]
  unfold inspect_Lots.f
  simp only [Option.bind_some, if_true]
  rw [ints_self _ h2.1 _ zq17, Option.bind_some, if_pos rfl, ints_self _ h2.2.1 _ zq17, Option.bind_some, if_pos rfl, ints_self _ h2.2.2 _ zq17, Option.bind_some, if_pos rfl]
  rfl
 ·rfl
end Go.Proofs.Ytbpebehbfpgjbaa.P
end
section
namespace Go.Proofs.Ytbpebehbfpgjbaa.inspectBlocks
open Go.ChangeShapes Go.WideShapes Go.ChangeAt Go.RowKit Go.Proofs.Ytbpebehbfpgjbaa.P
set_option linter.unusedVariables false
theorem own : ownKnob Try.prog.godebug = none := by kernel_rfl
theorem laidOut : laidOutB Try.prog = true := by kernel_rfl
set_option maxRecDepth 100000 in
theorem lifted (os : Os) (started : os.Started) (H : Type) (enc : TypeId × Value → H) :
  ReturnsInHanded {} Try.checked os 3 .any (Rows.inspectBlocksSpec.pre6 enc Try.prog Try.f3 Rows.inspectBlocksRow.domain false) (Rows.inspectBlocksSpec.post enc Try.prog Try.f3 false true false false) := by
 refine returnsInHanded_of_change_sized (C := Try.checked) own started zq22 Try.func3
  (ChangeSpec.witness6 (enc := enc) (C := Try.checked) false ⟨#[], #[.agg #[.int .i64 0, .slice none 0 0, .slice none 0 0], .slice none 0 0, .int .i64 0], []⟩ 8 zq22 zq22 zq22 zq22) ?_
 intro W base args ds gs before hval0 hW hcnd hsz0 _
 have hval : ∀ (j : Nat) t v, Try.f3.params[j]? = some t → args[j]? = some v → Value.okWide Try.prog W .any base t v := hval0
 have hW' := hW
 obtain ⟨p, q, hA0, hV, rfl, hfz, hnd⟩ := hW
 have hA : DataW.TrodAll enc Try.prog W 0 (fun _ => true) true Try.f3.params.toList args.toList ds p := hA0
 rw [Try.params3] at hA hval
 obtain ⟨v0, vs0, d0, ds0, p0, q0, hargs, rfl, rfl, h0, r0⟩ := trodAll_cons hA
 obtain ⟨v1, vs1, d1, ds1, p1, q1, rfl, rfl, rfl, h1, r1⟩ := trodAll_cons r0
 obtain ⟨v2, vs2, d2, ds2, p2, q2, rfl, rfl, rfl, h2, r2⟩ := trodAll_cons r1
 obtain ⟨rfl, rfl, rfl⟩ := trodAll_nil r2
 obtain rfl : args = #[v0, v1, v2] := by cases args; simp_all
 obtain ⟨rfl, rfl⟩ := trodVars_none hV
 have k0 := h0
 have lt0 : ∀ x ∈ p0, x.block < W.heap.size := by obtain ⟨m, hm⟩ := k0; exact DataW.trod_lt m _ _ _ hm
 obtain ⟨a0, A0_1, c0_1, l0_1, A0_2, c0_2, l0_2, rfl, w0, hc0_1, hC0_1, hc0_2, hC0_2⟩ := open_checker h0
 have k1 := h1
 have lt1 : ∀ x ∈ p1, x.block < W.heap.size := by obtain ⟨m, hm⟩ := k1; exact DataW.trod_lt m _ _ _ hm
 obtain ⟨b1, len1, cap1, e1⟩ := okWide_slice Try.underlying26 (hval 1 26 v1 rfl rfl)
 obtain ⟨A1, c1, l1, rfl, hc1, hC1⟩ := open_runs h1 (fun a e => by rw [e] at e1; cases e1)
 obtain ⟨a2, rfl, rfl, rfl, w2⟩ := open_int Try.underlying3 (hval 2 3 v2 rfl rfl) h2
 clear hA0 hval0 hsz0
 refine (culletlaw07_InspectBlocks.calls 5000000000000 a0 A0_1 c0_1 l0_1 A0_2 c0_2 l0_2 A1 c1 l1 a2 true W hC0_1 hc0_1 hC0_2 hc0_2 hC1 hc1 (blocks_pure a0 l0_1 l0_2 l1 a2)).mono fun e W' ⟨he, bel⟩ => ?_
 subst he
 exact ⟨_, rfl, _, _, _, [], _, [], hW', trodAll_mk1 (shut_bool Try.underlying4 _), (trodAll_cons_mk (Below.trod laidOut zq22 (of_decide_eq_true zq22) k0 bel lt0) (trodAll_cons_mk (Below.trod laidOut zq22 (of_decide_eq_true zq22) k1 bel lt1) (trodAll_cons_mk (shut_int Try.underlying3 w2) trodAll_mk0))), rfl, bel.frame _, fun h => by cases h⟩
theorem over : Rows.inspectBlocksRow.holds Try.pinned (OpenSpec.ofChange Rows.inspectBlocksSpec) :=
 OpenClaim.holds_of_wide 3 Try.f3 rfl rfl rfl rfl rfl rfl rfl ⟨rfl, rfl, rfl, rfl, rfl⟩ rfl rfl rfl rfl rfl zq22 Try.func3 zq22
  (of_decide_eq_true zq22) (by unfold Func.isWrapper; first | (rw [if_pos (by decide +kernel)]; kernel_rfl) | (rw [if_neg (by decide +kernel)]; exact ⟨rfl, rfl⟩))
  (fun os started H enc _ => lifted os started H enc)
theorem proved : Rows.InspectBlocksSaid := over
end Go.Proofs.Ytbpebehbfpgjbaa.inspectBlocks
namespace Go.Proofs.Ytbpebehbfpgjbaa
theorem inspectBlocks_holds : Rows.InspectBlocksSaid := inspectBlocks.proved
end Go.Proofs.Ytbpebehbfpgjbaa
end
