/- Texts of the proof, joined: what they prove stands at each theorem. -/
import Derived.Deep.RegionLaw
import Derived.Sort.OwnSortedInts
import Derived.Maps.RangeRun
import Derived.Test.YtbpebehbfpgjbaaClb
import Derived.Test.YtbpebehbfpgjbaaClc
import Derived.Test.YtbpebehbfpgjbaaClf
section
namespace Go.Proofs.Ytbpebehbfpgjbaa.P
open Go.RowKit Go.Proofs.YtbpebehbfpgjbaaW.PrintWords Go.Proofs.YtbpebehbfpgjbaaW.PrintLast Go.Proofs.YtbpebehbfpgjbaaW.PrintMore
set_option linter.unusedVariables false
set_option linter.unusedSimpArgs false
open GM
set_option maxHeartbeats 8000000 in
set_option maxRecDepth 100000 in
theorem inspect_Missed.calls (a0_0 : Int) (A0_1 : Option Addr) (c0_1 : Nat) (l0_1 : List S58) (A0_2 : Option Addr) (c0_2 : Nat) (l0_2 : List S56) (A1 : Option Addr) (c1 : Nat) (l1 : List S45) (a2 : Int) (r1 r2 r3 r4 : Int) (w : World)
  (hr0_1 : Kd.C k58 w A0_1 l0_1.length l0_1) (hc0_1 : l0_1.length ≤ c0_1) (hr0_2 : Kd.C k56 w A0_2 l0_2.length l0_2) (hc0_2 : l0_2.length ≤ c0_2) (hr1 : Kd.C k45 w A1 l1.length l1) (hc1 : l1.length ≤ c1) (h : inspect_Missed.f a0_0 l0_1 l0_2 l1 a2 = some (r1, r2, r3, r4)) :
  Calls Try.prog 15 #[.agg #[.int .i64 a0_0, .slice A0_1 l0_1.length c0_1, .slice A0_2 l0_2.length c0_2], .slice A1 l1.length c1, .int .i64 a2] w fun e w' =>
   e = .returned (.tuple #[.agg #[.int .i64 r1, .int .i64 r2], .int .i64 r3, .int .i64 r4]) ∧ Below w.heap.size w w' := by
 have hj : missF a0_0 l0_1 l0_2 l1 a2 = (r1, r2, r3, r4) := Option.some.inj h
 clear h
 have hb1 := ((Below.refl w.heap.size w).alloc (Nat.le_refl _) (.cells #[.int .i64 a0_0, .slice A0_1 l0_1.length c0_1, .slice A0_2 l0_2.length c0_2] 25)).alloc zq51 (.cells #[.int .i64 0, .int .i64 0] 35)
 have hlog := checklog_plain a0_0 A0_1 c0_1 l0_1 A0_2 c0_2 l0_2 A1 c1 l1 w hr0_1 hc0_1 hr0_2 hc0_2 hr1 hc1 _ hb1
 have HB1 := Aside0.mk hb1
 have HC1 := Aside0.mk (blk_alloc (blk_new w (.cells #[.int .i64 a0_0, .slice A0_1 l0_1.length c0_1, .slice A0_2 l0_2.length c0_2] 25)) (.cells #[.int .i64 0, .int .i64 0] 35))
 have HR1 : Aside0 (((w.alloc (.cells #[.int .i64 a0_0, .slice A0_1 l0_1.length c0_1, .slice A0_2 l0_2.length c0_2] 25)).alloc (.cells #[.int .i64 0, .int .i64 0] 35)).heap[w.heap.size + 1]? = some (.cells #[.int .i64 0, .int .i64 0] 35 (0, 0))) := ⟨by
  have := blk_new (w.alloc (.cells #[.int .i64 a0_0, .slice A0_1 l0_1.length c0_1, .slice A0_2 l0_2.length c0_2] 25)) (.cells #[.int .i64 0, .int .i64 0] 35)
  simpa only [World.size_alloc] using this⟩
 clear hb1
 unfold missF at hj
 by_cases h0 : logS a0_0 l0_1 l0_2 l1 = 0
 ·rw [if_neg (fun hh => hh h0)] at hj
  have hv := logS_valid h0
  have hop := opened_valid a0_0 A0_1 c0_1 l0_1 A0_2 c0_2 l0_2 A1 c1 l1 w hr0_1 hc0_1 hr0_2 hc0_2 hr1 hv
  rw [h0] at hlog
  have hwp1 : wrap64 ((l0_1.length : Int) - 1) = (l0_1.length : Int) - 1 := wpred _ (by have := hv.n1; omega)
  have hwn := within_plain a2 0 ((l0_1.length : Int) - 1)
  have HV := Aside0.mk hv
  have hdesk := fun (W : World) b (hW : Below w.heap.size w W) (hd : DeskIs W b l1) => hv.desk (A0_1 := A0_1) (c0_1 := c0_1) (A0_2 := A0_2) (c0_2 := c0_2) (A1 := A1) (c1 := c1) (Kd.C_below hr0_1 hW) hc0_1 (Kd.C_below hr0_2 hW) hc0_2 (Kd.C_below hr1 hW) hd
  have HDESK := Aside0.mk hdesk
  have hclm := fun (W : World) (hW : Below w.heap.size w W) (s : Int) (h0 : 0 ≤ s) (h1 : s < l0_2.length) (hc : clmB l0_2 s a2 = true) => inspect_claim.calls a0_0 A0_1 c0_1 l0_1 A0_2 c0_2 l0_2 s a2 _ _ _ _ W (Kd.C_below hr0_1 hW) hc0_1 (Kd.C_below hr0_2 hW) hc0_2 (claim_val a0_0 l0_1 l0_2 s a2 h0 h1 hc)
  have HCLM := Aside0.mk hclm
  clear hr0_1 hr0_2 hr1 hv h0 hdesk hclm
  cases hw : win a2 0 ((l0_1.length : Int) - 1)
  ·rw [if_pos hw] at hj
   obtain ⟨rfl, rfl, rfl, rfl⟩ : 0 = r1 ∧ 0 = r2 ∧ 0 = r3 ∧ 7 = r4 := by simpa using hj
   rw [hw] at hwn
   go_enter Try.func15, Try.ntmps15
   go_wp2_with (first
    | (go_at_call 19; (with_reducible refine hlog.mono ?_); rintro e w1 ⟨rfl, hb⟩; have HB2 := Aside0.mk (below_step HB1.out hb); have HC2 := Aside0.mk (blk_below HC1.out hb); have HR2 := Aside0.mk (blk_below HR1.out hb); have hc0 : w1.cell? ⟨w.heap.size, 0, none⟩ = some (.int .i64 a0_0) := (blk_cell HC2.out 0).trans rfl; have hc1 : w1.cell? ⟨w.heap.size, 1, none⟩ = some (.slice A0_1 l0_1.length c0_1) := (blk_cell HC2.out 1).trans rfl; have hc2 : w1.cell? ⟨w.heap.size, 2, none⟩ = some (.slice A0_2 l0_2.length c0_2) := (blk_cell HC2.out 2).trans rfl; have hr0 : ∀ n, (w1.drewN n).cell? ⟨w.heap.size + 1, 0, none⟩ = some (.int .i64 0) := fun n => (blk_cell HR2.out 0).trans rfl; have hr1 : ∀ n, (w1.drewN n).cell? ⟨w.heap.size + 1, 1, none⟩ = some (.int .i64 0) := fun n => (blk_cell HR2.out 1).trans rfl; have hf0 : ∀ n, (w1.drewN n).frozen? ⟨w.heap.size + 1, 0, none⟩ = false := fun n => blk_frozen HR2.out 0; have hf1 : ∀ n, (w1.drewN n).frozen? ⟨w.heap.size + 1, 1, none⟩ = false := fun n => blk_frozen HR2.out 1; clear hb)
    | (go_at_call 36; (with_reducible refine (hwn _).mono ?_); rintro e w2 ⟨rfl, nd, rfl⟩))
   have e1 := blk_put (cs' := #[.int .i64 0, .int .i64 0]) (blk_drewN HR2.out nd) 0 (.int .i64 0) rfl
   have e2 := blk_put (cs' := #[.int .i64 0, .int .i64 0]) e1 1 (.int .i64 0) rfl
   refine bodyPost_ret (results_ctt rfl _ _ (w.heap.size + 1) 35 #[.int .i64 0, .int .i64 0] (0, 0) _ rfl e2 Try.underlying35 rfl zq26) rfl ⟨rfl, ?_⟩
   exact (((pw_below_drewN HB2.out nd).setCell (p := ⟨w.heap.size + 1, 0, none⟩) zq51 _).setCell (p := ⟨w.heap.size + 1, 1, none⟩) zq51 _)
  ·rw [if_neg (by rw [hw]; decide)] at hj
   rw [hw] at hwn
   have hwt := win_true hw
   obtain ⟨e1, e2, e3, rfl⟩ : ((missP a0_0 l0_1 l0_2 l1 a2 l1.length).1 : Nat) = r1 ∧ ((missP a0_0 l0_1 l0_2 l1 a2 l1.length).2.1 : Nat) = r2 ∧ ((missP a0_0 l0_1 l0_2 l1 a2 l1.length).2.2 : Nat) = r3 ∧ 0 = r4 := by simpa using hj
   have HE := Aside0.mk (And.intro e1 (And.intro e2 e3))
   have HA2 := Aside0.mk (show 0 ≤ a2 ∧ a2 ≤ 8 from ⟨hwt.1, by have := HV.out.n1; omega⟩)
   clear hj e1 e2 e3 hwt hw
   go_enter Try.func15, Try.ntmps15
   go_wp2_with (first
    | (go_at_call 19; (with_reducible refine hlog.mono ?_); rintro e w1 ⟨rfl, hb⟩; have HB2 := Aside0.mk (below_step HB1.out hb); have HC2 := Aside0.mk (blk_below HC1.out hb); have HR2 := Aside0.mk (blk_below HR1.out hb); have hc0 : w1.cell? ⟨w.heap.size, 0, none⟩ = some (.int .i64 a0_0) := (blk_cell HC2.out 0).trans rfl; have hc1 : w1.cell? ⟨w.heap.size, 1, none⟩ = some (.slice A0_1 l0_1.length c0_1) := (blk_cell HC2.out 1).trans rfl; have hc2 : w1.cell? ⟨w.heap.size, 2, none⟩ = some (.slice A0_2 l0_2.length c0_2) := (blk_cell HC2.out 2).trans rfl; have hr0 : ∀ n, (w1.drewN n).cell? ⟨w.heap.size + 1, 0, none⟩ = some (.int .i64 0) := fun n => (blk_cell HR2.out 0).trans rfl; have hr1 : ∀ n, (w1.drewN n).cell? ⟨w.heap.size + 1, 1, none⟩ = some (.int .i64 0) := fun n => (blk_cell HR2.out 1).trans rfl; have hf0 : ∀ n, (w1.drewN n).frozen? ⟨w.heap.size + 1, 0, none⟩ = false := fun n => blk_frozen HR2.out 0; have hf1 : ∀ n, (w1.drewN n).frozen? ⟨w.heap.size + 1, 1, none⟩ = false := fun n => blk_frozen HR2.out 1; clear hb)
    | (go_at_call 36; (with_reducible refine (hwn _).mono ?_); rintro e w2 ⟨rfl, nd, rfl⟩; have HB2x := Aside0.mk (((pw_below_drewN HB2.out nd).setCell (p := ⟨w.heap.size + 1, 0, none⟩) zq51 (.int .i64 0)).setCell (p := ⟨w.heap.size + 1, 1, none⟩) zq51 (.int .i64 1)); have HC2x := Aside0.mk (blk_far (blk_far (blk_drewN HC2.out nd) (p := ⟨w.heap.size + 1, 0, none⟩) zq51 (.int .i64 0)) (p := ⟨w.heap.size + 1, 1, none⟩) zq51 (.int .i64 1)); have hr2a := blk_put (cs' := #[.int .i64 0, .int .i64 0]) (blk_drewN HR2.out nd) 0 (.int .i64 0) rfl; have HR2x := Aside0.mk (blk_put (cs' := #[.int .i64 0, .int .i64 1]) hr2a 1 (.int .i64 1) rfl); clear hr2a; have hk0 : (((w1.drewN nd).setCell ⟨w.heap.size + 1, 0, none⟩ (.int .i64 0)).setCell ⟨w.heap.size + 1, 1, none⟩ (.int .i64 1)).cell? ⟨w.heap.size, 0, none⟩ = some (.int .i64 a0_0) := (blk_cell HC2x.out 0).trans rfl; have hk1 : (((w1.drewN nd).setCell ⟨w.heap.size + 1, 0, none⟩ (.int .i64 0)).setCell ⟨w.heap.size + 1, 1, none⟩ (.int .i64 1)).cell? ⟨w.heap.size, 1, none⟩ = some (.slice A0_1 l0_1.length c0_1) := (blk_cell HC2x.out 1).trans rfl; have hk2 : (((w1.drewN nd).setCell ⟨w.heap.size + 1, 0, none⟩ (.int .i64 0)).setCell ⟨w.heap.size + 1, 1, none⟩ (.int .i64 1)).cell? ⟨w.heap.size, 2, none⟩ = some (.slice A0_2 l0_2.length c0_2) := (blk_cell HC2x.out 2).trans rfl)
    | (go_at_call 32; (with_reducible refine (hop _ HB2x.out).mono ?_); rintro e w3 ⟨b, rfl, hD, hb⟩; have HB3 := Aside0.mk ((below_step HB2x.out hb).alloc (below_step HB2x.out hb).size (.cells #[.int .i64 a0_0, .slice A0_1 l0_1.length c0_1, .slice A0_2 l0_2.length c0_2, .slice A1 l1.length c1, .map (some b)] 77)); have HC3 := Aside0.mk (blk_alloc (blk_below HC2x.out hb) (.cells #[.int .i64 a0_0, .slice A0_1 l0_1.length c0_1, .slice A0_2 l0_2.length c0_2, .slice A1 l1.length c1, .map (some b)] 77)); have HR3 := Aside0.mk (blk_alloc (blk_below HR2x.out hb) (.cells #[.int .i64 a0_0, .slice A0_1 l0_1.length c0_1, .slice A0_2 l0_2.length c0_2, .slice A1 l1.length c1, .map (some b)] 77)); have HD3 := Aside0.mk (blk_new w3 (.cells #[.int .i64 a0_0, .slice A0_1 l0_1.length c0_1, .slice A0_2 l0_2.length c0_2, .slice A1 l1.length c1, .map (some b)] 77)); have HDI3 := Aside0.mk (hD.desk.below ((Below.refl _ w3).alloc (Nat.le_refl _) (.cells #[.int .i64 a0_0, .slice A0_1 l0_1.length c0_1, .slice A0_2 l0_2.length c0_2, .slice A1 l1.length c1, .map (some b)] 77))); have HG := Aside0.mk (show w.heap.size + 1 < w3.heap.size from blk_lt (blk_below HR2x.out hb)); clear hb hD)
    | (go_at_call 33; (with_reducible refine (inspect_verdicts.calls a0_0 A0_1 c0_1 l0_1 A0_2 c0_2 l0_2 A1 c1 l1 b _ (HDESK.out _ b HB3.out HDI3.out)).mono ?_); rintro e w4 ⟨g, rfl, ho, hb⟩; have HB4 := Aside0.mk (below_step HB3.out hb); have HC4 := Aside0.mk (blk_below HC3.out hb); have HR4 := Aside0.mk (blk_below HR3.out hb); have HD4 := Aside0.mk (blk_below HD3.out hb); have HDI4 := Aside0.mk (HDI3.out.below hb); have HO4 := Aside0.mk (own_weaken ho HB3.out.size); clear hb ho))
   go_loopg [7, 39] l1.length (fun gg s7 s39 wr => ∃ i : Nat, s39 = .int .i64 (i : Int) ∧ s7 = .int .i64 ((missP a0_0 l0_1 l0_2 l1 a2 i).2.2 : Nat) ∧ Aside0 (i ≤ l1.length ∧ l1.length - i ≤ gg) ∧ Aside0 (Below w.heap.size w wr) ∧ Aside0 (wr.heap[w.heap.size]? = some (.cells #[.int .i64 a0_0, .slice A0_1 l0_1.length c0_1, .slice A0_2 l0_2.length c0_2] 25 (0, 0))) ∧ Aside0 (wr.heap[w.heap.size + 1]? = some (.cells #[.int .i64 ((missP a0_0 l0_1 l0_2 l1 a2 i).1 : Nat), .int .i64 ((missP a0_0 l0_1 l0_2 l1 a2 i).2.1 : Nat)] 35 (0, 0))) ∧ Aside0 (wr.heap[w3.heap.size]? = some (.cells #[.int .i64 a0_0, .slice A0_1 l0_1.length c0_1, .slice A0_2 l0_2.length c0_2, .slice A1 l1.length c1, .map (some b)] 77 (0, 0))) ∧ Aside0 (DeskIs wr b l1) ∧ Aside0 (wr.ownsRow w.heap.size 46 1 (.slice (some ⟨g, 0, none⟩) l1.length l1.length) l1.length (nums .u8 (verdP a0_0 l0_1 l0_2 l1 l1.length))))
   case atStart => exact ⟨0, rfl, rfl, ⟨zq18, zq18⟩, HB4, HC4, HR4, HD4, HDI4, HO4⟩
   case round =>
    clear hr0 hr1 hf0 hf1 hc0 hc1 hc2 hk0 hk1 hk2
    obtain ⟨i, rfl, rfl, hi, HB, HC, HR, HD, HDI, HO⟩ := hrel
    by_cases hlt : i < l1.length
    ·have hlt' : (i : Int) < (l1.length : Int) := by omega
     have hb0 : decide (i < l1.length) = true := decide_eq_true hlt
     have hq0 : 0 ≤ (i : Int) := by omega
     have hq1 : (i : Int) ≤ 511 := by have := HV.out.len; omega
     have hca := (own_at HO.out (i : Int) hq0 hlt').1
     have hgv : rd (verdP a0_0 l0_1 l0_2 l1 l1.length) (i : Int) = vdS a0_0 l0_1 l0_2 l1 i := by
      have := verdP_get a0_0 l0_1 l0_2 l1 l1.length i hlt
      unfold rd
      rw [Int.toNat_natCast]
      exact this
     rw [hgv, Int.toNat_natCast] at hca
     clear hgv
     have hmb := missP_bound HV.out a2 i
     by_cases hv : vdS a0_0 l0_1 l0_2 l1 i = 2
     ·rw [hv] at hca
      have hmp : missP a0_0 l0_1 l0_2 l1 a2 (i + 1) = if (missP a0_0 l0_1 l0_2 l1 a2 i).1 * (shareP a0_0 l0_2 l1 a2 (i : Int) l0_2.length).2 < (shareP a0_0 l0_2 l1 a2 (i : Int) l0_2.length).1 * (missP a0_0 l0_1 l0_2 l1 a2 i).2.1 then ((shareP a0_0 l0_2 l1 a2 (i : Int) l0_2.length).1, (shareP a0_0 l0_2 l1 a2 (i : Int) l0_2.length).2, (missP a0_0 l0_1 l0_2 l1 a2 i).2.2 + 1) else ((missP a0_0 l0_1 l0_2 l1 a2 i).1, (missP a0_0 l0_1 l0_2 l1 a2 i).2.1, (missP a0_0 l0_1 l0_2 l1 a2 i).2.2 + 1) := by
       rw [show missP a0_0 l0_1 l0_2 l1 a2 (i + 1) = if vdS a0_0 l0_1 l0_2 l1 i = 2 then _ else _ from rfl, if_pos hv]
      generalize missP a0_0 l0_1 l0_2 l1 a2 i = mp at HR hmb hmp ⊢
      obtain ⟨m1, m2, m3⟩ := mp
      simp only at HR hmb hmp ⊢
      obtain ⟨m4, hm4⟩ : ∃ m4 : Nat, m3 + 1 = m4 := ⟨_, rfl⟩
      have hw3 : wrap64 ((m3 : Int) + 1) = (m4 : Int) := by rw [wsucc m3 zq18, hm4]
      rw [hm4] at hmp
      clear hm4
      have HMB := Aside0.mk hmb
      have HMP := Aside0.mk hmp
      clear hmb hmp hv
      have hcc2 : ∀ o, (wr.alloc o).cell? ⟨w.heap.size, 2, none⟩ = some (.slice A0_2 l0_2.length c0_2) := fun o => (blk_cell (blk_alloc HC.out o) 2).trans rfl
      obtain ⟨wo, hwo⟩ : ∃ wo, wo = wr := ⟨_, rfl⟩
      subst hwo
      have HBs := Aside0.mk (HB.out.alloc HB.out.size (.cells #[.int .i64 1, .int .i64 1] 35))
      have HCs := Aside0.mk (blk_alloc HC.out (.cells #[.int .i64 1, .int .i64 1] 35))
      have HRs := Aside0.mk (blk_alloc HR.out (.cells #[.int .i64 1, .int .i64 1] 35))
      have HDs := Aside0.mk (blk_alloc HD.out (.cells #[.int .i64 1, .int .i64 1] 35))
      have HSs := Aside0.mk (blk_new wo (.cells #[.int .i64 1, .int .i64 1] 35))
      have HDIs := Aside0.mk (HDI.out.below ((Below.refl _ wo).alloc (Nat.le_refl _) (.cells #[.int .i64 1, .int .i64 1] 35)))
      have HOs := Aside0.mk (own_move (w1 := wo.alloc (.cells #[.int .i64 1, .int .i64 1] 35)) HO.out (fun k hk => Below.heap_alloc _ _ k (own_lt HO.out k hk)))
      have HGO := Aside0.mk (show w3.heap.size < wo.heap.size from blk_lt HD.out)
      go_wp2
      simp only [hw3]
      go_loopg [52] l0_2.length (fun gj s52 wr => ∃ j : Nat, s52 = .int .i64 (j : Int) ∧ Aside0 (j ≤ l0_2.length ∧ l0_2.length - j ≤ gj) ∧ Aside0 (Below w.heap.size w wr) ∧ Aside0 (wr.heap[w.heap.size]? = some (.cells #[.int .i64 a0_0, .slice A0_1 l0_1.length c0_1, .slice A0_2 l0_2.length c0_2] 25 (0, 0))) ∧ Aside0 (wr.heap[w.heap.size + 1]? = some (.cells #[.int .i64 (m1 : Int), .int .i64 (m2 : Int)] 35 (0, 0))) ∧ Aside0 (wr.heap[w3.heap.size]? = some (.cells #[.int .i64 a0_0, .slice A0_1 l0_1.length c0_1, .slice A0_2 l0_2.length c0_2, .slice A1 l1.length c1, .map (some b)] 77 (0, 0))) ∧ Aside0 (DeskIs wr b l1) ∧ Aside0 (wr.ownsRow w.heap.size 46 1 (.slice (some ⟨g, 0, none⟩) l1.length l1.length) l1.length (nums .u8 (verdP a0_0 l0_1 l0_2 l1 l1.length))) ∧ Aside0 (wr.heap[wo.heap.size]? = some (.cells #[.int .i64 ((shareP a0_0 l0_2 l1 a2 (i : Int) j).1 : Nat), .int .i64 ((shareP a0_0 l0_2 l1 a2 (i : Int) j).2 : Nat)] 35 (0, 0))))
      case atStart => exact ⟨0, rfl, ⟨zq18, zq18⟩, HBs, HCs, HRs, HDs, HDIs, HOs, HSs⟩
      case round =>
       clear hca hcc2
       obtain ⟨j, rfl, hj, HBi, HCi, HRi, HDi, HDIi, HOi, HSi⟩ := hrel
       by_cases hltj : j < l0_2.length
       ·have hltj' : (j : Int) < (l0_2.length : Int) := by omega
        have hbj : decide (j < l0_2.length) = true := decide_eq_true hltj
        have hqj : (j : Int) ≤ 3 := by have := HV.out.n2; omega
        have hj0 : 0 ≤ (j : Int) := by omega
        have hd0 : wr.cell? ⟨w3.heap.size, 0, none⟩ = some (.int .i64 a0_0) := (blk_cell HDi.out 0).trans rfl
        have hd1 : wr.cell? ⟨w3.heap.size, 1, none⟩ = some (.slice A0_1 l0_1.length c0_1) := (blk_cell HDi.out 1).trans rfl
        have hd2 : wr.cell? ⟨w3.heap.size, 2, none⟩ = some (.slice A0_2 l0_2.length c0_2) := (blk_cell HDi.out 2).trans rfl
        have hd3 : wr.cell? ⟨w3.heap.size, 3, none⟩ = some (.slice A1 l1.length c1) := (blk_cell HDi.out 3).trans rfl
        have hd4 : wr.cell? ⟨w3.heap.size, 4, none⟩ = some (.map (some b)) := (blk_cell HDi.out 4).trans rfl
        have hcall := (HDESK.out _ b HBi.out HDIi.out).trusted a0_0 (j : Int) a2 (i : Int) hj0 hltj' HA2.out.1 HA2.out.2
        have hsb := shareP_bound HV.out a2 (i : Int) j zq18
        have hp4 := pow4 (j := j) (by have := HV.out.n2; omega)
        have hp3 : 1000 ^ j ≤ 1000000000 := by
         have h3 : j ≤ 3 := by omega
         have : 1000 ^ j ≤ 1000 ^ 3 := Nat.pow_le_pow_right zq50 h3
         simpa using this
        have hj1 := hltj'
        by_cases ht : trU a0_0 l0_2 l1 (j : Int) a2 (i : Int) = 1
        ·have hsh : shareP a0_0 l0_2 l1 a2 (i : Int) (j + 1) = (((shareP a0_0 l0_2 l1 a2 (i : Int) j).1 * (clmV l0_2 (j : Int) a2).f1.toNat) / Nat.gcd ((shareP a0_0 l0_2 l1 a2 (i : Int) j).1 * (clmV l0_2 (j : Int) a2).f1.toNat) ((shareP a0_0 l0_2 l1 a2 (i : Int) j).2 * (clmV l0_2 (j : Int) a2).f2.toNat), ((shareP a0_0 l0_2 l1 a2 (i : Int) j).2 * (clmV l0_2 (j : Int) a2).f2.toNat) / Nat.gcd ((shareP a0_0 l0_2 l1 a2 (i : Int) j).1 * (clmV l0_2 (j : Int) a2).f1.toNat) ((shareP a0_0 l0_2 l1 a2 (i : Int) j).2 * (clmV l0_2 (j : Int) a2).f2.toNat)) := by
          rw [show shareP a0_0 l0_2 l1 a2 (i : Int) (j + 1) = if trU a0_0 l0_2 l1 (j : Int) a2 (i : Int) = 1 then _ else _ from rfl, if_pos ht]
         have HCB := Aside0.mk (trU_claim ht)
         have hcv := HV.out.claim hj0 hltj' HCB.out
         rw [ht] at hcall
         generalize shareP a0_0 l0_2 l1 a2 (i : Int) j = sp at HSi hsb hsh
         obtain ⟨s1, s2⟩ := sp
         simp only at HSi hsb hsh
         have hcj := fun (W : World) (hW : Below w.heap.size w W) => HCLM.out W hW (j : Int) hj0 hj1 HCB.out
         generalize hx : clmV l0_2 (j : Int) a2 = x at hcv hsh hcj
         have HCJ := Aside0.mk hcj
         clear hcj
         have hb1 : s1 * x.f1.toNat ≤ 1000000000000 := Nat.le_trans (Nat.mul_le_mul (Nat.le_trans hsb.1 hp3) (show x.f1.toNat ≤ 1000 by omega)) zq50
         have hb2 : s2 * x.f2.toNat ≤ 1000000000000 := Nat.le_trans (Nat.mul_le_mul (Nat.le_trans hsb.2.1 hp3) (show x.f2.toNat ≤ 1000 by omega)) zq50
         have hb3 : 0 < s2 * x.f2.toNat := Nat.mul_pos hsb.2.2 zq18
         have hm1 : (s1 : Int) * x.f1 = ((s1 * x.f1.toNat : Nat) : Int) := by rw [Int.natCast_mul, show ((x.f1.toNat : Nat) : Int) = x.f1 by omega]
         have hm2 : (s2 : Int) * x.f2 = ((s2 * x.f2.toNat : Nat) : Int) := by rw [Int.natCast_mul, show ((x.f2.toNat : Nat) : Int) = x.f2 by omega]
         generalize s1 * x.f1.toNat = pa at hb1 hm1 hsh hb3
         generalize s2 * x.f2.toNat = pb at hb2 hm2 hsh hb3
         have hw1 : wrap64 ((s1 : Int) * x.f1) = (pa : Int) := by rw [hm1]; unfold wrap64; omega
         have hw2 : wrap64 ((s2 : Int) * x.f2) = (pb : Int) := by rw [hm2]; unfold wrap64; omega
         have hlow := fun W => inspect_lowest.calls pa pb W hb3 hb1 hb2
         generalize pa / Nat.gcd pa pb = qa at hlow hsh
         generalize pb / Nat.gcd pa pb = qb at hlow hsh
         have HLOW := Aside0.mk hlow
         clear hlow
         have HSH := Aside0.mk hsh
         clear hsb hsh hcv hb1 hb2 hb3 hm1 hm2 hp3 hp4 ht hltj' hx
         go_wp2_with (first
          | (go_at_call 37; (with_reducible refine hcall.mono ?_); rintro e wa ⟨rfl, hb⟩; have HBa := Aside0.mk (below_step HBi.out hb); have HCa := Aside0.mk (blk_below HCi.out hb); have HRa := Aside0.mk (blk_below HRi.out hb); have HDa := Aside0.mk (blk_below HDi.out hb); have HSa := Aside0.mk (blk_below HSi.out hb); have HDIa := Aside0.mk (HDIi.out.below hb); have HOa := Aside0.mk (own_move HOi.out (fun k hk => hb.block k (own_lt HOi.out k hk))); have hc0 : wa.cell? ⟨w.heap.size, 0, none⟩ = some (.int .i64 a0_0) := (blk_cell HCa.out 0).trans rfl; have hc1 : wa.cell? ⟨w.heap.size, 1, none⟩ = some (.slice A0_1 l0_1.length c0_1) := (blk_cell HCa.out 1).trans rfl; have hc2 : wa.cell? ⟨w.heap.size, 2, none⟩ = some (.slice A0_2 l0_2.length c0_2) := (blk_cell HCa.out 2).trans rfl; clear hb)
          | (go_at_call 38; (with_reducible refine (HCJ.out _ HBa.out).mono ?_); rintro e wb ⟨rfl, hb⟩; have HBb := Aside0.mk (below_step HBa.out hb); have HCb := Aside0.mk (blk_below HCa.out hb); have HRb := Aside0.mk (blk_below HRa.out hb); have HDb := Aside0.mk (blk_below HDa.out hb); have HSb := Aside0.mk (blk_below HSa.out hb); have HDIb := Aside0.mk (HDIa.out.below hb); have HOb := Aside0.mk (own_move HOa.out (fun k hk => hb.block k (own_lt HOa.out k hk))); have hs0 : ∀ o, (wb.alloc o).cell? ⟨wo.heap.size, 0, none⟩ = some (.int .i64 (s1 : Int)) := fun o => (blk_cell (blk_alloc HSb.out o) 0).trans rfl; have hs1 : ∀ o, (wb.alloc o).cell? ⟨wo.heap.size, 1, none⟩ = some (.int .i64 (s2 : Int)) := fun o => (blk_cell (blk_alloc HSb.out o) 1).trans rfl; clear hb)
          | (go_at_call 39; (with_reducible refine (HLOW.out _).mono ?_); rintro e wc ⟨rfl, hb⟩; have HBc := Aside0.mk (below_step (HBb.out.alloc HBb.out.size (.cells #[.int .i64 x.f0, .int .i64 x.f1, .int .i64 x.f2] 68)) hb); have HCc := Aside0.mk (blk_below (blk_alloc HCb.out (.cells #[.int .i64 x.f0, .int .i64 x.f1, .int .i64 x.f2] 68)) hb); have HRc := Aside0.mk (blk_below (blk_alloc HRb.out (.cells #[.int .i64 x.f0, .int .i64 x.f1, .int .i64 x.f2] 68)) hb); have HDc := Aside0.mk (blk_below (blk_alloc HDb.out (.cells #[.int .i64 x.f0, .int .i64 x.f1, .int .i64 x.f2] 68)) hb); have HSc := Aside0.mk (blk_below (blk_alloc HSb.out (.cells #[.int .i64 x.f0, .int .i64 x.f1, .int .i64 x.f2] 68)) hb); have HDIc := Aside0.mk ((HDIb.out.below ((Below.refl _ wb).alloc (Nat.le_refl _) (.cells #[.int .i64 x.f0, .int .i64 x.f1, .int .i64 x.f2] 68))).below hb); have HOc := Aside0.mk (own_move (own_move (w1 := wb.alloc (.cells #[.int .i64 x.f0, .int .i64 x.f1, .int .i64 x.f2] 68)) HOb.out (fun k hk => Below.heap_alloc _ _ k (own_lt HOb.out k hk))) (fun k hk => hb.block k (by have := own_lt HOb.out k hk; simp only [World.size_alloc]; omega))); have hz0 : wc.cell? ⟨wo.heap.size, 0, none⟩ = some (.int .i64 (s1 : Int)) := (blk_cell HSc.out 0).trans rfl; have hz1 : wc.cell? ⟨wo.heap.size, 1, none⟩ = some (.int .i64 (s2 : Int)) := (blk_cell HSc.out 1).trans rfl; have hf0 := blk_frozen HSc.out 0; have hf1 := blk_frozen HSc.out 1; clear hb))
         have z1 := blk_put (cs' := #[.int .i64 (qa : Int), .int .i64 (s2 : Int)]) HSc.out 0 (.int .i64 (qa : Int)) rfl
         have z2 := blk_put (cs' := #[.int .i64 (qa : Int), .int .i64 (qb : Int)]) z1 1 (.int .i64 (qb : Int)) rfl
         have n0 : w.heap.size ≠ wo.heap.size := by have := HG.out; have := HGO.out; omega
         have n1 : w.heap.size + 1 ≠ wo.heap.size := by have := HG.out; have := HGO.out; omega
         have n2 : w3.heap.size ≠ wo.heap.size := by have := HGO.out; omega
         have hle : w.heap.size ≤ wo.heap.size := by have := HG.out; have := HGO.out; omega
         go_roundg (l0_2.length - (j + 1))
         case measure => have := hj.out; omega
         case rel =>
          refine ⟨j + 1, zq54, ⟨zq18⟩, ⟨(HBc.out.setCell (p := ⟨wo.heap.size, 0, none⟩) hle _).setCell (p := ⟨wo.heap.size, 1, none⟩) hle _⟩, ⟨blk_far (blk_far HCc.out (p := ⟨wo.heap.size, 0, none⟩) n0 _) (p := ⟨wo.heap.size, 1, none⟩) n0 _⟩, ⟨blk_far (blk_far HRc.out (p := ⟨wo.heap.size, 0, none⟩) n1 _) (p := ⟨wo.heap.size, 1, none⟩) n1 _⟩, ⟨blk_far (blk_far HDc.out (p := ⟨wo.heap.size, 0, none⟩) n2 _) (p := ⟨wo.heap.size, 1, none⟩) n2 _⟩, ⟨(HDIc.out.setCell HSc.out zq50 0 _).setCell z1 zq50 1 _⟩, ⟨?_⟩, by rw [HSH.out]; exact ⟨z2⟩⟩
          exact own_move HOc.out (fun k hk => by rw [Below.heap_setCell _ _ _ k (fun e => own_ne_cells HOc.out HSc.out zq50 (by rw [hk, e])), Below.heap_setCell _ _ _ k (fun e => own_ne_cells HOc.out HSc.out zq50 (by rw [hk, e]))])
        ·have hbt : (trU a0_0 l0_2 l1 (j : Int) a2 (i : Int) == 1) = false := by simpa using ht
         have hsh : shareP a0_0 l0_2 l1 a2 (i : Int) (j + 1) = shareP a0_0 l0_2 l1 a2 (i : Int) j := by
          rw [show shareP a0_0 l0_2 l1 a2 (i : Int) (j + 1) = if trU a0_0 l0_2 l1 (j : Int) a2 (i : Int) = 1 then _ else _ from rfl, if_neg ht]
         have HSH := Aside0.mk hsh
         clear hsb hsh hp3 hp4 ht hltj'
         go_wp2_with (go_at_call 37; (with_reducible refine hcall.mono ?_); rintro e wa ⟨rfl, hb⟩; have HBa := Aside0.mk (below_step HBi.out hb); have HCa := Aside0.mk (blk_below HCi.out hb); have HRa := Aside0.mk (blk_below HRi.out hb); have HDa := Aside0.mk (blk_below HDi.out hb); have HSa := Aside0.mk (blk_below HSi.out hb); have HDIa := Aside0.mk (HDIi.out.below hb); have HOa := Aside0.mk (own_move HOi.out (fun k hk => hb.block k (own_lt HOi.out k hk))); have hc0 : wa.cell? ⟨w.heap.size, 0, none⟩ = some (.int .i64 a0_0) := (blk_cell HCa.out 0).trans rfl; have hc1 : wa.cell? ⟨w.heap.size, 1, none⟩ = some (.slice A0_1 l0_1.length c0_1) := (blk_cell HCa.out 1).trans rfl; have hc2 : wa.cell? ⟨w.heap.size, 2, none⟩ = some (.slice A0_2 l0_2.length c0_2) := (blk_cell HCa.out 2).trans rfl; clear hb)
         go_roundg (l0_2.length - (j + 1))
         case measure => have := hj.out; omega
         case rel => exact ⟨j + 1, zq54, ⟨zq18⟩, HBa, HCa, HRa, HDa, HDIa, HOa, by rw [HSH.out]; exact HSa⟩
       ·have hlenj : j = l0_2.length := by have := hj.out; omega
        have hbj : decide (j < l0_2.length) = false := decide_eq_false hltj
        subst hlenj
        clear hltj
        have hsb := shareP_bound HV.out a2 (i : Int) l0_2.length (Nat.le_refl _)
        have hp4 := pow4 (j := l0_2.length) HV.out.n2
        have hmp := HMP.out
        generalize shareP a0_0 l0_2 l1 a2 (i : Int) l0_2.length = sp at HSi hsb hmp
        obtain ⟨s1, s2⟩ := sp
        simp only at HSi hsb hmp
        have hless := fun W => inspect_less.calls m1 m2 s1 s2 W HMB.out.1 HMB.out.2.1 zq18 zq18
        have HI := Aside0.mk (And.intro hi.out.1 hi.out.2)
        clear hi hsb hp4
        have hs0 : wr.cell? ⟨wo.heap.size, 0, none⟩ = some (.int .i64 (s1 : Int)) := (blk_cell HSi.out 0).trans rfl
        have hs1 : wr.cell? ⟨wo.heap.size, 1, none⟩ = some (.int .i64 (s2 : Int)) := (blk_cell HSi.out 1).trans rfl
        have hr0 : wr.cell? ⟨w.heap.size + 1, 0, none⟩ = some (.int .i64 (m1 : Int)) := (blk_cell HRi.out 0).trans rfl
        have hr1 : wr.cell? ⟨w.heap.size + 1, 1, none⟩ = some (.int .i64 (m2 : Int)) := (blk_cell HRi.out 1).trans rfl
        by_cases hl : m1 * s2 < s1 * m2
        ·rw [if_pos hl] at hmp
         rw [decide_eq_true hl] at hless
         have HLESS := Aside0.mk hless
         have HMQ := Aside0.mk hmp
         clear hless hmp hl
         go_wp2_with (go_at_call 40; (with_reducible refine (HLESS.out _).mono ?_); rintro e wc ⟨rfl, hb⟩; have HBc := Aside0.mk (below_step HBi.out hb); have HCc := Aside0.mk (blk_below HCi.out hb); have HRc := Aside0.mk (blk_below HRi.out hb); have HDc := Aside0.mk (blk_below HDi.out hb); have HSc := Aside0.mk (blk_below HSi.out hb); have HDIc := Aside0.mk (HDIi.out.below hb); have HOc := Aside0.mk (own_move HOi.out (fun k hk => hb.block k (own_lt HOi.out k hk))); have hs0 : wc.cell? ⟨wo.heap.size, 0, none⟩ = some (.int .i64 (s1 : Int)) := (blk_cell HSc.out 0).trans rfl; have hs1 : wc.cell? ⟨wo.heap.size, 1, none⟩ = some (.int .i64 (s2 : Int)) := (blk_cell HSc.out 1).trans rfl; have hr0 : wc.cell? ⟨w.heap.size + 1, 0, none⟩ = some (.int .i64 (m1 : Int)) := (blk_cell HRc.out 0).trans rfl; have hr1 : wc.cell? ⟨w.heap.size + 1, 1, none⟩ = some (.int .i64 (m2 : Int)) := (blk_cell HRc.out 1).trans rfl; have hf0 := blk_frozen HRc.out 0; have hf1 := blk_frozen HRc.out 1; clear hb)
         have z1 := blk_put (cs' := #[.int .i64 (s1 : Int), .int .i64 (m2 : Int)]) HRc.out 0 (.int .i64 (s1 : Int)) rfl
         have z2 := blk_put (cs' := #[.int .i64 (s1 : Int), .int .i64 (s2 : Int)]) z1 1 (.int .i64 (s2 : Int)) rfl
         have n2 : w3.heap.size ≠ w.heap.size + 1 := by have := HG.out; omega
         go_roundg (l1.length - (i + 1))
         case measure => have := HI.out; omega
         case rel =>
          refine ⟨i + 1, zq54, by rw [HMQ.out], ⟨zq18⟩, ⟨(HBc.out.setCell (p := ⟨w.heap.size + 1, 0, none⟩) zq51 _).setCell (p := ⟨w.heap.size + 1, 1, none⟩) zq51 _⟩, ⟨blk_far (blk_far HCc.out (p := ⟨w.heap.size + 1, 0, none⟩) zq51 _) (p := ⟨w.heap.size + 1, 1, none⟩) zq51 _⟩, by rw [HMQ.out]; exact ⟨z2⟩, ⟨blk_far (blk_far HDc.out (p := ⟨w.heap.size + 1, 0, none⟩) n2 _) (p := ⟨w.heap.size + 1, 1, none⟩) n2 _⟩, ⟨(HDIc.out.setCell HRc.out zq50 0 _).setCell z1 zq50 1 _⟩, ⟨?_⟩⟩
          exact own_move HOc.out (fun k hk => by rw [Below.heap_setCell _ _ _ k (fun e => own_ne_cells HOc.out HRc.out zq50 (by rw [hk, e])), Below.heap_setCell _ _ _ k (fun e => own_ne_cells HOc.out HRc.out zq50 (by rw [hk, e]))])
        ·rw [if_neg hl] at hmp
         rw [decide_eq_false hl] at hless
         have HLESS := Aside0.mk hless
         have HMQ := Aside0.mk hmp
         clear hless hmp hl
         go_wp2_with (go_at_call 40; (with_reducible refine (HLESS.out _).mono ?_); rintro e wc ⟨rfl, hb⟩; have HBc := Aside0.mk (below_step HBi.out hb); have HCc := Aside0.mk (blk_below HCi.out hb); have HRc := Aside0.mk (blk_below HRi.out hb); have HDc := Aside0.mk (blk_below HDi.out hb); have HSc := Aside0.mk (blk_below HSi.out hb); have HDIc := Aside0.mk (HDIi.out.below hb); have HOc := Aside0.mk (own_move HOi.out (fun k hk => hb.block k (own_lt HOi.out k hk))); have hs0 : wc.cell? ⟨wo.heap.size, 0, none⟩ = some (.int .i64 (s1 : Int)) := (blk_cell HSc.out 0).trans rfl; have hs1 : wc.cell? ⟨wo.heap.size, 1, none⟩ = some (.int .i64 (s2 : Int)) := (blk_cell HSc.out 1).trans rfl; have hr0 : wc.cell? ⟨w.heap.size + 1, 0, none⟩ = some (.int .i64 (m1 : Int)) := (blk_cell HRc.out 0).trans rfl; have hr1 : wc.cell? ⟨w.heap.size + 1, 1, none⟩ = some (.int .i64 (m2 : Int)) := (blk_cell HRc.out 1).trans rfl; have hf0 := blk_frozen HRc.out 0; have hf1 := blk_frozen HRc.out 1; clear hb)
         go_roundg (l1.length - (i + 1))
         case measure => have := HI.out; omega
         case rel => exact ⟨i + 1, zq54, by rw [HMQ.out], ⟨zq18⟩, HBc, HCc, by rw [HMQ.out]; exact HRc, HDc, HDIc, HOc⟩
     ·have hvb : (vdS a0_0 l0_1 l0_2 l1 i == 2) = false := by simpa using hv
      have hmp : missP a0_0 l0_1 l0_2 l1 a2 (i + 1) = missP a0_0 l0_1 l0_2 l1 a2 i := by
       rw [show missP a0_0 l0_1 l0_2 l1 a2 (i + 1) = if vdS a0_0 l0_1 l0_2 l1 i = 2 then _ else _ from rfl, if_neg hv]
      have HMP := Aside0.mk hmp
      clear hmb hmp hv
      go_wp2
      go_roundg (l1.length - (i + 1))
      case measure => have := hi.out; omega
      case rel => exact ⟨i + 1, zq54, by rw [HMP.out], ⟨zq18⟩, HB, HC, by rw [HMP.out]; exact HR, HD, HDI, HO⟩
    ·have hlen : i = l1.length := by have := hi.out; omega
     have hb0 : decide (i < l1.length) = false := decide_eq_false hlt
     subst hlen
     clear hlt
     have hbn := (missP_bound HV.out a2 l1.length).2.2.2
     have he := HE.out
     have hr0 : wr.cell? ⟨w.heap.size + 1, 0, none⟩ = some (.int .i64 ((missP a0_0 l0_1 l0_2 l1 a2 l1.length).1 : Nat)) := (blk_cell HR.out 0).trans rfl
     have hr1 : wr.cell? ⟨w.heap.size + 1, 1, none⟩ = some (.int .i64 ((missP a0_0 l0_1 l0_2 l1 a2 l1.length).2.1 : Nat)) := (blk_cell HR.out 1).trans rfl
     have hf0 := blk_frozen HR.out 0
     have hf1 := blk_frozen HR.out 1
     go_wp2
     have e1 := blk_put (cs' := #[.int .i64 r1, .int .i64 ((missP a0_0 l0_1 l0_2 l1 a2 l1.length).2.1 : Nat)]) HR.out 0 (.int .i64 r1) rfl
     have e2 := blk_put (cs' := #[.int .i64 r1, .int .i64 r2]) e1 1 (.int .i64 r2) rfl
     refine bodyPost_ret (results_ctt rfl _ _ (w.heap.size + 1) 35 #[.int .i64 r1, .int .i64 r2] (0, 0) _ rfl e2 Try.underlying35 rfl zq26) rfl ⟨by first | rfl | (rw [← he.2.2]; rfl), ?_⟩
     exact (HB.out.setCell (p := ⟨w.heap.size + 1, 0, none⟩) zq51 _).setCell (p := ⟨w.heap.size + 1, 1, none⟩) zq51 _
 ·rw [if_pos h0] at hj
  obtain ⟨rfl, rfl, rfl, h3⟩ : 0 = r1 ∧ 0 = r2 ∧ 0 = r3 ∧ logS a0_0 l0_1 l0_2 l1 = r4 := by simpa using hj
  rw [h3] at hlog h0
  have hb0 : (r4 == 0) = false := by simpa using h0
  clear hj h3 h0
  go_enter Try.func15, Try.ntmps15
  go_wp2_with (go_at_call 19; (with_reducible refine hlog.mono ?_); rintro e w1 ⟨rfl, hb⟩; have HB2 := Aside0.mk (below_step HB1.out hb); have HR2 := Aside0.mk (blk_below HR1.out hb); have hr0 : w1.cell? ⟨w.heap.size + 1, 0, none⟩ = some (.int .i64 0) := (blk_cell HR2.out 0).trans rfl; have hr1 : w1.cell? ⟨w.heap.size + 1, 1, none⟩ = some (.int .i64 0) := (blk_cell HR2.out 1).trans rfl; have hf0 := blk_frozen HR2.out 0; have hf1 := blk_frozen HR2.out 1; clear hb)
  have e1 := blk_put (cs' := #[.int .i64 0, .int .i64 0]) HR2.out 0 (.int .i64 0) rfl
  have e2 := blk_put (cs' := #[.int .i64 0, .int .i64 0]) e1 1 (.int .i64 0) rfl
  refine bodyPost_ret (results_ctt rfl _ _ (w.heap.size + 1) 35 #[.int .i64 0, .int .i64 0] (0, 0) _ rfl e2 Try.underlying35 rfl zq26) rfl ⟨rfl, ?_⟩
  exact (HB2.out.setCell (p := ⟨w.heap.size + 1, 0, none⟩) zq51 _).setCell (p := ⟨w.heap.size + 1, 1, none⟩) zq51 _
end Go.Proofs.Ytbpebehbfpgjbaa.P
end
section
namespace Go.Proofs.Ytbpebehbfpgjbaa.P
open Go.RowKit Go.Proofs.YtbpebehbfpgjbaaW.PrintWords Go.Proofs.YtbpebehbfpgjbaaW.PrintLast Go.Proofs.YtbpebehbfpgjbaaW.PrintMore
set_option linter.unusedVariables false
set_option linter.unusedSimpArgs false
open GM
open Go.Maps (Keyed)
theorem keyed3 : Keyed Try.prog 3 := Go.Maps.int_keyed Try.underlying3
theorem key3 (n : Int) (h : (Lit.int .i64 n).wf = true) : keyOf Try.prog 3 (.int .i64 n) = some (.int .i64 n) := by
 unfold keyOf
 simp [mapKey, Try.underlying3, h]
theorem eqmap1 (b : Nat) (w : World) : (binOp .eql 88 (.map (some b)) (.map none)).run Try.prog w = .ok (.bool false) w := by kernel_rfl
theorem eqmap0 (w : World) : (binOp .eql 88 (.map none) (.map none)).run Try.prog w = .ok (.bool true) w := by kernel_rfl
theorem zero74 : ∀ u : World, (zeroValue 74).run Try.prog u = .ok (.slice none 0 0) u := fun u => by kernel_rfl
theorem info46 : (Try.prog.info? 46).map (fun i => (i.zero, i.size, i.bytes)) = some (some (.int .u8 0), 1, 1) := by kernel_rfl
def ShelfIs (W : World) (base g : Nat) (f : Value → List Int) : Prop :=
 (W.heap[g]? = some (.cells #[.map none] 90 (0, 0)) ∧ f = fun _ => []) ∨ ∃ b, W.heap[g]? = some (.cells #[.map (some b)] 90 (0, 0)) ∧ Groups Try.prog 3 46 .u8 W base b f ∧ base ≤ b
structure KeptBut (base g : Nat) (w w' : World) : Prop where
 os : w'.os = w.os
 tape : w'.tape = w.tape
 output : w'.output = w.output
 size : w.heap.size ≤ w'.heap.size
 block : ∀ j, j < base → j ≠ g → w'.heap[j]? = w.heap[j]?
def isInt (k : Value) (n : Int) : Bool := match k with | .int .i64 m => m == n | _ => false
def put1 (f : Value → List Int) (n x : Int) : Value → List Int := fun k => if isInt k n = true then f k ++ [x] else f k
theorem isInt_true {k : Value} {n : Int} (h : isInt k n = true) : k = .int .i64 n := by
 unfold isInt at h
 split at h
 ·rw [beq_iff_eq] at h; rw [h]
 ·cases h
theorem isInt_self (n : Int) : isInt (.int .i64 n) n = true := by simp [isInt]
theorem KeptBut.refl (base g : Nat) (w : World) : KeptBut base g w w := ⟨rfl, rfl, rfl, Nat.le_refl _, fun _ _ _ => rfl⟩
theorem KeptBut.step {base g : Nat} {w W w' : World} (h : KeptBut base g w W) (hs : Below base W w') : KeptBut base g w w' :=
 ⟨hs.os.trans h.os, hs.tape.trans h.tape, hs.output.trans h.output, Nat.le_trans h.size hs.size, fun j hj hg => (hs.block j hj).trans (h.block j hj hg)⟩
theorem put_back {b : Nat} {n x : Int} {base : Nat} {f : Value → List Int} {w W w1 : World} {v0 v1 : Value} (hW : W.heap = w.heap) (hb : base ≤ b) (hbw : b < w.heap.size)
  (hown : w.ownsRow base 46 1 v0 (f (.int .i64 n)).length (nums .u8 (f (.int .i64 n)))) (hnb : v0.ownBlock ≠ some b)
  (hback : ∀ (W2 : World) (val : Value) (xs : List Int) (f' : Value → List Int), W2.heap[b]? = w.heap[b]? → (∀ j, j < w.heap.size → j ≠ b → some j ≠ v0.ownBlock → W2.heap[j]? = w.heap[j]?) →
    W2.ownsRow base 46 1 val xs.length (nums .u8 xs) → xs ≠ [] → (val.ownBlock = v0.ownBlock ∨ ∃ g, val.ownBlock = some g ∧ w.heap.size ≤ g) → f' (.int .i64 n) = xs → (∀ k', k' ≠ .int .i64 n → f' k' = f k') →
    ∃ es' clock', (Instr.mapUpdate 88 (.map (some b)) (.int .i64 n) val).run Try.prog W2 = .ok () (ChangeMaps.setBlock W2 b (.map es' clock')) ∧ Groups Try.prog 3 46 .u8 (ChangeMaps.setBlock W2 b (.map es' clock')) base b f')
  (ho : (Kd.int .u8).R 46 w1 base (fun _ => True) v1 (f (.int .i64 n) ++ [x])) (hg : W.grownBy w1 v0.ownBlock) (hat : v1.ownBlock = v0.ownBlock ∨ ∃ b, v1.ownBlock = some b ∧ W.heap.size ≤ b) :
  ∃ es' clock', (Instr.mapUpdate 88 (.map (some b)) (.int .i64 n) v1).run Try.prog w1 = .ok () (ChangeMaps.setBlock w1 b (.map es' clock')) ∧ Groups Try.prog 3 46 .u8 (ChangeMaps.setBlock w1 b (.map es' clock')) base b (put1 f n x) := by
 refine hback w1 v1 (f (.int .i64 n) ++ [x]) (put1 f n x) ?_ (fun j hj hjb hjv => ?_) (Kd.own_of_R ho) zq51 (by rwa [hW] at hat) ?_ (fun k' hk' => ?_)
 ·rw [hg.block b (by rw [hW]; exact hbw) (fun e => hnb e.symm), hW]
 ·rw [hg.block j (by rw [hW]; exact hj) hjv, hW]
 ·simp [put1, isInt_self]
 ·have : isInt k' n = false := by
   cases h : isInt k' n
   ·rfl
   ·exact absurd (isInt_true h) hk'
  simp [put1, this]
set_option maxHeartbeats 4000000 in
set_option maxRecDepth 100000 in
theorem put_some (g b base : Nat) (n x : Int) (f : Value → List Int) (w : World) (hg : w.heap[g]? = some (.cells #[.map (some b)] 90 (0, 0))) (hG : Groups Try.prog 3 46 .u8 w base b f) (hb : base ≤ b) (hgb : g < base) (hn : (Lit.int .i64 n).wf = true) (hbase : base ≤ w.heap.size) (hlen : (f (.int .i64 n)).length ≤ 512) :
  Calls Try.prog 66 #[.pointer (some ⟨g, 0, none⟩), .int .i64 n, .int .u8 x] w fun e w' => e = .returned (.tuple #[]) ∧ ShelfIs w' base g (put1 f n x) ∧ KeptBut base g w w' := by
 have hc := (blk_cell hg 0).trans (rfl : _ = some (Value.map (some b)))
 have heq := eqmap1 b
 have HBB := Aside0.mk hb
 have HGB := Aside0.mk hgb
 have HBASE := Aside0.mk hbase
 have HLEN := Aside0.mk hlen
 have HN := Aside0.mk hn
 have HKW := Aside0.mk (KeptBut.refl base g w)
 have HGW := Aside0.mk hg
 have HGR0 := Aside0.mk hG
 clear hb hgb hn hbase hlen hg hG
 go_enter Try.func66, Try.ntmps66
 go_wp2
 obtain ⟨W, hW⟩ : ∃ W, W = w := ⟨_, rfl⟩
 subst hW
 have hgW := HGW.out
 have hGW := HGR0.out
 (have hbw := hGW.lt; obtain ⟨v0, hlook, hown, hnb, hback⟩ := hGW.update keyed3 Try.underlying88 zero74 (key3 n HN.out); have hc := (blk_cell hgW 0).trans (rfl : _ = some (Value.map (some b))); have hl0 := hlook W rfl; have hl1 : (Instr.lookup 88 (.map (some b)) (.int .i64 n) false).run Try.prog W.drew = .ok v0 W.drew := hlook W.drew rfl; have hl3 : ∀ o, (Instr.lookup 88 (.map (some b)) (.int .i64 n) false).run Try.prog (W.drew.alloc o) = .ok v0 (W.drew.alloc o) := fun o => hlook _ (blk_alloc' (W := W.drew) hbw o); have hl4 : ∀ o, (Instr.lookup 88 (.map (some b)) (.int .i64 n) false).run Try.prog (W.alloc o).drew = .ok v0 (W.alloc o).drew := fun o => hlook _ (blk_alloc' (W := W) hbw o); have hc4 : ∀ o, (W.alloc o).drew.cell? ⟨g, 0, none⟩ = some (.map (some b)) := fun o => (blk_cell (blk_alloc hgW o) 0).trans rfl; have hc5 : ∀ o, (W.drew.alloc o).cell? ⟨g, 0, none⟩ = some (.map (some b)) := fun o => (blk_cell (blk_alloc (w := W.drew) hgW o) 0).trans rfl; have HOWN := Aside0.mk hown; have HNB := Aside0.mk hnb; have HBACK := Aside0.mk hback; have HG := Aside0.mk hgW; have HBW := Aside0.mk hbw; clear hlook hown hnb hback hgW hGW hbw; go_region_law (refine Kd.R_append_step (Kd.int .u8) (w0 := W) (W := W.drew) base (by rfl) (.tmp 25) (.tmp 27) 74 46 (.int .u8 0) 1 (by rfl) Try.underlying74 info46 (by rfl) zq50 zq18 v0 (f (.int .i64 (n : Int))) x [.int .u8 (x : Int)] (fun _ => True) (fun _ => False) (by simp [Act.eval, Act.put]) (by simp [Act.eval, Act.put]) (by rfl) (fun _ hk => hk.elim) (fun _ _ => trivial) (Kd.R_of_own (h1 := fun _ => rfl) (ok := fun _ => True) (own_move HOWN.out (fun k hk => rfl)) (fun _ _ => trivial)) ⟨rfl, rfl, rfl, Nat.le_refl _, fun _ _ => rfl⟩ HBASE.out (by have := HLEN.out; omega) ?_; intro v1 w1 ho hb hg hat; have HO1 := Aside0.mk ho; have HB1 := Aside0.mk hb; have HGR := Aside0.mk hg; have HAT := Aside0.mk hat; clear ho hb hg hat; have hst := put_back (W := W.drew) rfl HBB.out HBW.out HOWN.out HNB.out HBACK.out HO1.out HGR.out HAT.out; obtain ⟨es', clock', hst, hG'⟩ := hst; have HGG := Aside0.mk hG'; clear hG'; have hcw1 : w1.cell? ⟨g, 0, none⟩ = some (.map (some b)) := (blk_cell ((HB1.out.block g HGB.out).trans HG.out) 0).trans rfl); all_goals (go_end0; have hs := below_setBlock (o := .map es' clock') (b := b) HB1.out HBB.out; exact ⟨rfl, .inr ⟨b, (hs.block g HGB.out).trans HG.out, HGG.out, HBB.out⟩, HKW.out.step hs⟩))
set_option maxHeartbeats 4000000 in
set_option maxRecDepth 100000 in
theorem put_none (g base : Nat) (n x : Int) (f : Value → List Int) (hf : f = fun _ => []) (w : World) (hg : w.heap[g]? = some (.cells #[.map none] 90 (0, 0))) (hgb : g < base) (hn : (Lit.int .i64 n).wf = true) (hbase : base ≤ w.heap.size) :
  Calls Try.prog 66 #[.pointer (some ⟨g, 0, none⟩), .int .i64 n, .int .u8 x] w fun e w' => e = .returned (.tuple #[]) ∧ ShelfIs w' base g (put1 f n x) ∧ KeptBut base g w w' := by
 have hc := (blk_cell hg 0).trans (rfl : _ = some (Value.map none))
 have heq := eqmap0
 have hmm := @run_makeMap Try.prog
 have hgs := blk_lt hg
 have hc1 : ∀ o, (w.alloc o).cell? ⟨g, 0, none⟩ = some (.map none) := fun o => (blk_cell (blk_alloc hg o) 0).trans rfl
 have hf1 : ∀ o, (w.alloc o).frozen? ⟨g, 0, none⟩ = false := fun o => blk_frozen (blk_alloc hg o) 0
 have HBB := Aside0.mk hbase
 have HGB := Aside0.mk hgb
 have HN := Aside0.mk hn
 obtain ⟨b, hbe⟩ : ∃ b, b = w.heap.size := ⟨_, rfl⟩
 have hG0 := (Groups.made (P := Try.prog) (kt := 3) (e := 46) (q := .u8) (w.setCell ⟨g, 0, none⟩ (.map (some b))) base)
 simp only [World.size_setCell] at hG0
 rw [← hbe] at hG0 HBB
 rw [← hf] at hG0
 have hG1 : Groups Try.prog 3 46 .u8 ((w.setCell ⟨g, 0, none⟩ (.map (some b))).alloc (.map #[] 0)) base b f := hG0
 have hg1 := blk_alloc (blk_put (cs' := #[.map (some b)]) hg 0 (.map (some b)) rfl) (.map #[] 0)
 have hk1 : KeptBut base g w ((w.setCell ⟨g, 0, none⟩ (.map (some b))).alloc (.map #[] 0)) := ⟨rfl, rfl, rfl, zq51, fun j hj hjg => by rw [Below.heap_alloc _ _ j (by simp only [World.size_setCell]; omega), Below.heap_setCell _ ⟨g, 0, none⟩ _ j hjg]⟩
 have HBASE := Aside0.mk (show base ≤ ((w.setCell ⟨g, 0, none⟩ (.map (some b))).alloc (.map #[] 0)).heap.size by simp; omega)
 have HG1 := Aside0.mk hG1
 have HGG1 := Aside0.mk hg1
 have HKW := Aside0.mk hk1
 clear hG0 hG1 hg1 hk1 hg hgb hn
 go_enter Try.func66, Try.ntmps66
 go_wp2
 rw [← hbe]
 generalize (w.setCell ⟨g, 0, none⟩ (.map (some b))).alloc (.map #[] 0) = W at HG1 HGG1 HKW HBASE ⊢
 have hgW := HGG1.out
 have hGW := HG1.out
 have HLEN : Aside0 ((f (Value.int .i64 n)).length ≤ 512) := ⟨by rw [hf]; simp⟩
 clear hbe hc1 hf1
 clear hf
 (have hbw := hGW.lt; obtain ⟨v0, hlook, hown, hnb, hback⟩ := hGW.update keyed3 Try.underlying88 zero74 (key3 n HN.out); have hc := (blk_cell hgW 0).trans (rfl : _ = some (Value.map (some b))); have hl0 := hlook W rfl; have hl1 : (Instr.lookup 88 (.map (some b)) (.int .i64 n) false).run Try.prog W.drew = .ok v0 W.drew := hlook W.drew rfl; have hl3 : ∀ o, (Instr.lookup 88 (.map (some b)) (.int .i64 n) false).run Try.prog (W.drew.alloc o) = .ok v0 (W.drew.alloc o) := fun o => hlook _ (blk_alloc' (W := W.drew) hbw o); have hl4 : ∀ o, (Instr.lookup 88 (.map (some b)) (.int .i64 n) false).run Try.prog (W.alloc o).drew = .ok v0 (W.alloc o).drew := fun o => hlook _ (blk_alloc' (W := W) hbw o); have hc4 : ∀ o, (W.alloc o).drew.cell? ⟨g, 0, none⟩ = some (.map (some b)) := fun o => (blk_cell (blk_alloc hgW o) 0).trans rfl; have hc5 : ∀ o, (W.drew.alloc o).cell? ⟨g, 0, none⟩ = some (.map (some b)) := fun o => (blk_cell (blk_alloc (w := W.drew) hgW o) 0).trans rfl; have HOWN := Aside0.mk hown; have HNB := Aside0.mk hnb; have HBACK := Aside0.mk hback; have HG := Aside0.mk hgW; have HBW := Aside0.mk hbw; clear hlook hown hnb hback hgW hGW hbw; go_region_law (refine Kd.R_append_step (Kd.int .u8) (w0 := W) (W := W.drew) base (by rfl) (.tmp 25) (.tmp 27) 74 46 (.int .u8 0) 1 (by rfl) Try.underlying74 info46 (by rfl) zq50 zq18 v0 (f (.int .i64 (n : Int))) x [.int .u8 (x : Int)] (fun _ => True) (fun _ => False) (by simp [Act.eval, Act.put]) (by simp [Act.eval, Act.put]) (by rfl) (fun _ hk => hk.elim) (fun _ _ => trivial) (Kd.R_of_own (h1 := fun _ => rfl) (ok := fun _ => True) (own_move HOWN.out (fun k hk => rfl)) (fun _ _ => trivial)) ⟨rfl, rfl, rfl, Nat.le_refl _, fun _ _ => rfl⟩ HBASE.out (by have := HLEN.out; omega) ?_; intro v1 w1 ho hb hg hat; have HO1 := Aside0.mk ho; have HB1 := Aside0.mk hb; have HGR := Aside0.mk hg; have HAT := Aside0.mk hat; clear ho hb hg hat; have hst := put_back (W := W.drew) rfl HBB.out HBW.out HOWN.out HNB.out HBACK.out HO1.out HGR.out HAT.out; obtain ⟨es', clock', hst, hG'⟩ := hst; have HGG := Aside0.mk hG'; clear hG'; have hcw1 : w1.cell? ⟨g, 0, none⟩ = some (.map (some b)) := (blk_cell ((HB1.out.block g HGB.out).trans HG.out) 0).trans rfl); all_goals (go_end0; have hs := below_setBlock (o := .map es' clock') (b := b) HB1.out HBB.out; exact ⟨rfl, .inr ⟨b, (hs.block g HGB.out).trans HG.out, HGG.out, HBB.out⟩, HKW.out.step hs⟩))
theorem put_calls (g base : Nat) (n x : Int) (f : Value → List Int) (w : World) (h : ShelfIs w base g f) (hgb : g < base) (hn : (Lit.int .i64 n).wf = true) (hbase : base ≤ w.heap.size) (hlen : (f (.int .i64 n)).length ≤ 512) :
  Calls Try.prog 66 #[.pointer (some ⟨g, 0, none⟩), .int .i64 n, .int .u8 x] w fun e w' => e = .returned (.tuple #[]) ∧ ShelfIs w' base g (put1 f n x) ∧ KeptBut base g w w' := by
 rcases h with ⟨h1, h2⟩ | ⟨b, h1, h2, h3⟩
 ·exact put_none g base n x f h2 w h1 hgb hn hbase
 ·exact put_some g b base n x f w h1 h2 h3 hgb hn hbase hlen
theorem Below.kept {B base g : Nat} {w W W' : World} (h : Below B w W) (k : KeptBut base g W W') (h1 : B ≤ base) (h2 : B ≤ g) : Below B w W' :=
 ⟨k.os.trans h.os, k.tape.trans h.tape, k.output.trans h.output, Nat.le_trans h.size k.size, fun j hj => (k.block j zq18 zq18).trans (h.block j hj)⟩
def keptB (l : List S45) (i : Nat) : Bool := ((l.getD i z45).f1 == 1) && !(l.getD i z45).f6
def shelfP (every : Int) (fl : List S58) (st : List S56) (l : List S45) : Nat → Value → List Int
 | 0 => fun _ => []
 | i + 1 => if keptB l i = true then put1 (shelfP every fl st l i) (l.getD i z45).f2 (vdS every fl st l i) else shelfP every fl st l i
theorem shelfP_len (every : Int) (fl : List S58) (st : List S56) (l : List S45) (k : Value) : ∀ i, (shelfP every fl st l i k).length ≤ i
 | 0 => by simp [shelfP]
 | i + 1 => by
  have := shelfP_len every fl st l k i
  unfold shelfP
  split
  ·unfold put1
   split
   ·simp; omega
   ·omega
  ·omega
theorem Valid.lot {every : Int} {fl : List S58} {st : List S56} {l : List S45} (h : Valid every fl st l) (n : Nat) (hk : (l.getD n z45).f1 = 1) : 0 ≤ (l.getD n z45).f2 ∧ (l.getD n z45).f2 ≤ 1000000 := by
 by_cases hn : n < l.length
 ·have he := (h.run n hn).2.2.2
  unfold entErr at he
  rw [if_pos hk] at he
  split at he
  ·exact absurd he zq50
  ·rename_i h1
   exact win_true (by simpa using h1)
 ·rw [List.getD_eq_getElem?_getD, List.getElem?_eq_none zq18] at hk
  exact absurd hk zq50
set_option maxHeartbeats 4000000 in
set_option maxRecDepth 100000 in
theorem inspect_lots.calls (a0_0 : Int) (A0_1 : Option Addr) (c0_1 : Nat) (l0_1 : List S58) (A0_2 : Option Addr) (c0_2 : Nat) (l0_2 : List S56) (A1 : Option Addr) (c1 : Nat) (l1 : List S45) (w : World)
  (hr0_1 : Kd.C k58 w A0_1 l0_1.length l0_1) (hc0_1 : l0_1.length ≤ c0_1) (hr0_2 : Kd.C k56 w A0_2 l0_2.length l0_2) (hc0_2 : l0_2.length ≤ c0_2) (hr1 : Kd.C k45 w A1 l1.length l1) (hv : Valid a0_0 l0_1 l0_2 l1) :
  Calls Try.prog 43 #[.agg #[.int .i64 a0_0, .slice A0_1 l0_1.length c0_1, .slice A0_2 l0_2.length c0_2], .slice A1 l1.length c1] w fun e w' =>
   ∃ mv base, e = .returned (.agg #[mv]) ∧ (mv = .map none ∧ shelfP a0_0 l0_1 l0_2 l1 l1.length = (fun _ => []) ∨ ∃ b, mv = .map (some b) ∧ Groups Try.prog 3 46 .u8 w' base b (shelfP a0_0 l0_1 l0_2 l1 l1.length)) ∧ Below w.heap.size w w' := by
 have hb1 := (((Below.refl w.heap.size w).alloc (Nat.le_refl _) (.cells #[.int .i64 a0_0, .slice A0_1 l0_1.length c0_1, .slice A0_2 l0_2.length c0_2] 25)).alloc zq51 (.cells #[.map none] 90)).alloc (by simp; omega) (.cells #[.map none] 90)
 have hop := opened_valid a0_0 A0_1 c0_1 l0_1 A0_2 c0_2 l0_2 A1 c1 l1 w hr0_1 hc0_1 hr0_2 hc0_2 hr1 hv _ hb1
 have hvd := fun b W (hD : Desk W A0_1 c0_1 l0_1 A0_2 c0_2 l0_2 A1 c1 l1 b) => inspect_verdicts.calls a0_0 A0_1 c0_1 l0_1 A0_2 c0_2 l0_2 A1 c1 l1 b W hD
 have HB1 := Aside0.mk hb1
 have hr1' := blk_new ((w.alloc (.cells #[.int .i64 a0_0, .slice A0_1 l0_1.length c0_1, .slice A0_2 l0_2.length c0_2] 25))) (.cells #[.map none] 90)
 simp only [World.size_alloc] at hr1'
 have HR1 := Aside0.mk (blk_alloc hr1' (.cells #[.map none] 90))
 have hs1' := blk_new (((w.alloc (.cells #[.int .i64 a0_0, .slice A0_1 l0_1.length c0_1, .slice A0_2 l0_2.length c0_2] 25))).alloc (.cells #[.map none] 90)) (.cells #[.map none] 90)
 simp only [World.size_alloc] at hs1'
 have HS1 := Aside0.mk hs1'
 have HV := Aside0.mk hv
 have HL1 := Aside0.mk hr1
 clear hb1 hr1' hs1' hv hr0_1 hr0_2 hr1
 go_enter Try.func43, Try.ntmps43
 go_wp2_with (first
  | (go_at_call 32; (with_reducible refine hop.mono ?_); rintro e w3 ⟨b, rfl, hD, hb⟩; have HB3 := Aside0.mk (below_step HB1.out hb); have HR3 := Aside0.mk (blk_below HR1.out hb); have HS3 := Aside0.mk (blk_below HS1.out hb); have HDK := Aside0.mk hD; clear hb hD)
  | (go_at_call 33; (with_reducible refine (hvd _ _ HDK.out).mono ?_); rintro e w4 ⟨g, rfl, ho, hb⟩; have HB4 := Aside0.mk (below_step HB3.out hb); have HR4 := Aside0.mk (blk_below HR3.out hb); have HS4 := Aside0.mk (blk_below HS3.out hb); have HO4 := Aside0.mk (own_weaken ho HB3.out.size); clear hb ho))
 have HGB := Aside0.mk (blk_lt HS4.out)
 have HOB := Aside0.mk (own_lt HO4.out g rfl)
 have HOG := Aside0.mk (show g ≠ w.heap.size + 1 + 1 from fun e => own_ne_cells HO4.out HS4.out zq50 (by rw [e]; rfl))
 go_loopg [13] l1.length (fun gg s13 wr => ∃ i : Nat, s13 = .int .i64 (i : Int) ∧ Aside0 (i ≤ l1.length ∧ l1.length - i ≤ gg) ∧ Aside0 (Below w.heap.size w wr) ∧
  Aside0 (wr.heap[w.heap.size + 1]? = some (.cells #[.map none] 90 (0, 0))) ∧ Aside0 (ShelfIs wr w4.heap.size (w.heap.size + 1 + 1) (shelfP a0_0 l0_1 l0_2 l1 i)) ∧ Aside0 (w4.heap.size ≤ wr.heap.size) ∧
  Aside0 (wr.ownsRow w.heap.size 46 1 (.slice (some ⟨g, 0, none⟩) l1.length l1.length) l1.length (nums .u8 (verdP a0_0 l0_1 l0_2 l1 l1.length))))
 case atStart => exact ⟨0, rfl, ⟨zq18, zq18⟩, HB4, HR4, ⟨.inl ⟨HS4.out, rfl⟩⟩, ⟨Nat.le_refl _⟩, HO4⟩
 case round =>
  obtain ⟨i, rfl, hi, HB, HR, HS, HSZ, HO⟩ := hrel
  by_cases hlt : i < l1.length
  ·have hlt' : (i : Int) < (l1.length : Int) := by omega
   have hb0 : decide (i < l1.length) = true := decide_eq_true hlt
   have hq0 : 0 ≤ (i : Int) := by omega
   have hq1 : (i : Int) ≤ 511 := by have := HV.out.len; omega
   have hca := (own_at HO.out (i : Int) hq0 hlt').1
   have hgv : rd (verdP a0_0 l0_1 l0_2 l1 l1.length) (i : Int) = vdS a0_0 l0_1 l0_2 l1 i := by
    have := verdP_get a0_0 l0_1 l0_2 l1 l1.length i hlt
    unfold rd
    rw [Int.toNat_natCast]
    exact this
   rw [hgv, Int.toNat_natCast] at hca
   clear hgv
   obtain ⟨ad, e, hx0, hx1, hx2, hx3, hx4, hx5, hx6⟩ := at_T45 HL1.out (i : Int) hq0 hlt'
   cases e
   replace hx1 := hcx HB.out hx1
   replace hx2 := hcx HB.out hx2
   replace hx6 := hcx HB.out hx6
   simp only [Int.toNat_natCast] at hx1 hx2 hx6
   clear hx0 hx3 hx4 hx5
   have hsh : shelfP a0_0 l0_1 l0_2 l1 (i + 1) = if ((rd_T45 l1 (i : Int)).f1 == 1 && !(rd_T45 l1 (i : Int)).f6) = true then put1 (shelfP a0_0 l0_1 l0_2 l1 i) (rd_T45 l1 (i : Int)).f2 (vdS a0_0 l0_1 l0_2 l1 i) else shelfP a0_0 l0_1 l0_2 l1 i := rfl
   have hlot := HV.out.lot i
   have hlot' : (rd_T45 l1 (i : Int)).f1 = 1 → 0 ≤ (rd_T45 l1 (i : Int)).f2 ∧ (rd_T45 l1 (i : Int)).f2 ≤ 1000000 := hlot
   clear hlot
   generalize rd_T45 l1 (i : Int) = x at hx1 hx2 hx6 hsh hlot'
   have HSH := Aside0.mk hsh
   clear hsh
   by_cases hk : x.f1 = 1
   ·have hkb : (x.f1 == 1) = true := by simp [hk]
    cases ho : x.f6 with
    | true =>
     have HN := Aside0.mk (show shelfP a0_0 l0_1 l0_2 l1 (i + 1) = shelfP a0_0 l0_1 l0_2 l1 i from by rw [HSH.out, ho, hkb]; rfl)
     rw [ho] at hx6
     clear hk hlot' ho
     go_wp2
     go_roundg (l1.length - (i + 1))
     case measure => have := hi.out; omega
     case rel => exact ⟨i + 1, zq54, ⟨zq18⟩, HB, HR, ⟨by rw [HN.out]; exact HS.out⟩, HSZ, HO⟩
    | false =>
     have HN := Aside0.mk (show shelfP a0_0 l0_1 l0_2 l1 (i + 1) = put1 (shelfP a0_0 l0_1 l0_2 l1 i) x.f2 (vdS a0_0 l0_1 l0_2 l1 i) from by rw [HSH.out, ho, hkb]; rfl)
     rw [ho] at hx6
     have hl2 := hlot' hk
     have hput := put_calls (w.heap.size + 1 + 1) w4.heap.size x.f2 (vdS a0_0 l0_1 l0_2 l1 i) (shelfP a0_0 l0_1 l0_2 l1 i) wr HS.out HGB.out (small_wf _ zq18 zq18) HSZ.out (by have := shelfP_len a0_0 l0_1 l0_2 l1 (.int .i64 x.f2) i; omega)
     clear hk hlot' ho hl2
     go_wp2_with (go_at_call 66; (with_reducible refine hput.mono ?_); rintro e wc ⟨rfl, hs, hkb⟩; have HSc := Aside0.mk hs; have HK := Aside0.mk hkb; clear hs hkb)
     go_roundg (l1.length - (i + 1))
     case measure => have := hi.out; omega
     case rel => exact ⟨i + 1, zq54, ⟨zq18⟩, ⟨Below.kept HB.out HK.out HB4.out.size zq18⟩, ⟨(HK.out.block _ (by have := HGB.out; omega) zq18).trans HR.out⟩, ⟨by rw [HN.out]; exact HSc.out⟩, ⟨Nat.le_trans HSZ.out HK.out.size⟩, ⟨own_move HO.out (fun k hk => by cases hk; exact HK.out.block g HOB.out HOG.out)⟩⟩
   ·have hkb : (x.f1 == 1) = false := by simp [hk]
    have HN := Aside0.mk (show shelfP a0_0 l0_1 l0_2 l1 (i + 1) = shelfP a0_0 l0_1 l0_2 l1 i from by rw [HSH.out, hkb]; rfl)
    clear hk hlot'
    go_wp2
    go_roundg (l1.length - (i + 1))
    case measure => have := hi.out; omega
    case rel => exact ⟨i + 1, zq54, ⟨zq18⟩, HB, HR, ⟨by rw [HN.out]; exact HS.out⟩, HSZ, HO⟩
  ·have hlen : i = l1.length := by have := hi.out; omega
   have hb0 : decide (i < l1.length) = false := decide_eq_false hlt
   subst hlen
   clear hlt
   have hr0 := (blk_cell HR.out 0).trans (rfl : _ = some (Value.map none))
   have hf0 := blk_frozen HR.out 0
   rcases HS.out with ⟨h1, h2⟩ | ⟨b2, h1, h2, h3⟩
   ·have hs0 := (blk_cell h1 0).trans (rfl : _ = some (Value.map none))
    have H2 := Aside0.mk h2
    clear h1 h2
    go_wp2
    have e1 := blk_put (cs' := #[.map none]) HR.out 0 (.map none) rfl
    refine bodyPost_ret (results_cell_row rfl _ _ (w.heap.size + 1) 90 #[.map none] (0, 0) _ rfl e1 Try.underlying90 rfl zq26) rfl ⟨.map none, 0, rfl, .inl ⟨rfl, H2.out⟩, ?_⟩
    exact HB.out.setCell (p := ⟨w.heap.size + 1, 0, none⟩) zq51 _
   ·have hs0 := (blk_cell h1 0).trans (rfl : _ = some (Value.map (some b2)))
    have H2 := Aside0.mk h2
    have H3 := Aside0.mk h3
    clear h1 h2 h3
    go_wp2
    have e1 := blk_put (cs' := #[.map (some b2)]) HR.out 0 (.map (some b2)) rfl
    refine bodyPost_ret (results_cell_row rfl _ _ (w.heap.size + 1) 90 #[.map (some b2)] (0, 0) _ rfl e1 Try.underlying90 rfl zq26) rfl ⟨.map (some b2), w4.heap.size, rfl, .inr ⟨b2, rfl, ?_⟩, ?_⟩
    ·exact H2.out.move (Below.heap_setCell _ ⟨w.heap.size + 1, 0, none⟩ _ b2 (by have := H3.out; have := HGB.out; simp only; omega)) (fun j hj _ => Below.heap_setCell _ ⟨w.heap.size + 1, 0, none⟩ _ j (by have := HGB.out; simp only; omega))
    ·exact HB.out.setCell (p := ⟨w.heap.size + 1, 0, none⟩) zq51 _
end Go.Proofs.Ytbpebehbfpgjbaa.P
end
section
namespace Go.Proofs.Ytbpebehbfpgjbaa.P
open Go.RowKit Go.Proofs.YtbpebehbfpgjbaaW.PrintWords Go.Proofs.YtbpebehbfpgjbaaW.PrintLast Go.Proofs.YtbpebehbfpgjbaaW.PrintMore
set_option linter.unusedVariables false
set_option linter.unusedSimpArgs false
open GM
open Go.ChangeMaps (setBlock)
theorem nodup_le : ∀ (l m : List Int), l.Nodup → (∀ x ∈ l, x ∈ m) → l.length ≤ m.length
 | [], m, _, _ => Nat.zero_le _
 | a :: l, m, h, hs => by
  rw [List.nodup_cons] at h
  have ha : a ∈ m := hs a zq51
  have h1 := nodup_le l (m.erase a) h.2 (fun x hx => (List.mem_erase_of_ne (fun (e : x = a) => h.1 (by rw [← e]; exact hx))).2 (hs x (by simp [hx])))
  have h2 := List.length_erase_of_mem ha
  have h3 : 0 < m.length := List.length_pos_of_mem ha
  simp only [List.length_cons]
  omega
theorem sort_own {W : World} {base : Nat} {v : Value} {zs : List Int} (h : W.ownsRow base 3 1 v zs.length (nums .i64 zs)) (hsz : zs.length ≤ 1000) :
  Calls Try.prog 67 #[v] W fun e w' => e = .returned (.tuple #[]) ∧ w'.ownsRow base 3 1 v zs.length (nums .i64 (zs.mergeSort (fun x y => decide (x ≤ y)))) ∧ W.grownBy w' v.ownBlock := by
 rcases h.2 with ⟨h1, h2⟩ | ⟨g, cap, cur, rfl, hb, hg, hn, hm, hs, ht⟩
 ·have h0 : zs = [] := by simpa using h2
  subst h0
  rw [h1]
  exact (Try.slices_Sort_int_none none 0 W).mono (by
   rintro e w' ⟨rfl, rfl⟩
   refine ⟨rfl, ?_, ⟨rfl, rfl, rfl, Nat.le_refl _, fun _ _ _ => rfl⟩⟩
   rw [h1] at h
   simpa using h)
 ·have hgl : g < W.heap.size := blk_lt hg
  have ht' : cur.toList.take zs.length = zs.map (Value.int .i64) := by rw [Nat.mul_one] at ht; exact ht
  refine (Try.slices_Sort_int g 0 cap zs W (holds_of_blockI hg ht') hgl zq18).mono ?_
  rintro e w' ⟨rfl, n, os, rfl⟩
  refine ⟨rfl, ?_, grownBy_sortedI _⟩
  have := ownsRow_sortedI (w := W) (base := base) (g := g) (cap := cap) (n := n) (e := 3) (os := os) (cur := cur) (ss := zs) (ts := zs.mergeSort (fun x y => decide (x ≤ y))) (List.length_mergeSort _) hb hg hn hm hs
  exact this
theorem sorted_lt {zs : List Int} (h : zs.Nodup) : (zs.mergeSort (fun x y => decide (x ≤ y))).Pairwise (· < ·) := by
 have h1 := List.pairwise_mergeSort (le := fun x y : Int => decide (x ≤ y)) (fun a b c h1 h2 => by simp at *; omega) (fun a b => by simp; omega) zs
 have h2 : (zs.mergeSort (fun x y => decide (x ≤ y))).Nodup := (List.mergeSort_perm zs _).nodup_iff.2 h
 rw [List.nodup_iff_pairwise_ne] at h2
 refine (h1.and h2).imp ?_
 rintro a b ⟨h3, h4⟩
 have h3 := of_decide_eq_true h3
 omega
def Handed0 (es : Array MapEntry) (seen : Array Nat) (ks : List Int) : Prop := ks.Nodup ∧ (∀ n, n ∈ ks ↔ ∃ x ∈ es.toList, x.key = .int .i64 n ∧ seen.contains x.born = true) ∧ ks.length + (leftOf es seen).size ≤ es.size
theorem Handed0.start (es : Array MapEntry) : Handed0 es #[] [] := ⟨List.nodup_nil, fun n => by simp, by unfold leftOf; simpa using Array.size_filter_le⟩
theorem Handed0.step {es : Array MapEntry} {seen : Array Nat} {ks : List Int} {e : MapEntry} {n : Int} (h : Handed0 es seen ks) (he : e ∈ (leftOf es seen).toList) (hk : e.key = .int .i64 n) (hkeys : (es.toList.map (·.key)).Nodup) (hborn : (es.toList.map (·.born)).Nodup) : Handed0 es (seen.push e.born) (ks ++ [n]) := by
 obtain ⟨h1, h2, h3⟩ := h
 obtain ⟨m1, m2⟩ := mem_left he
 have hnot : n ∉ ks := fun hn => by
  obtain ⟨x, hx, hxk, hxs⟩ := (h2 n).1 hn
  have : x = e := inj_of_nodup_map hkeys hx m1 (by rw [hxk, hk])
  subst this
  rw [hxs] at m2
  cases m2
 refine ⟨?_, fun m => ?_, ?_⟩
 ·rw [List.nodup_append]
  exact ⟨h1, zq51, fun a ha b hb => by simp at hb; subst hb; exact fun e => hnot (e ▸ ha)⟩
 ·rw [List.mem_append, h2 m]
  constructor
  ·rintro (⟨x, hx, hxk, hxs⟩ | hm)
   ·exact ⟨x, hx, hxk, by simp at hxs ⊢; exact .inl hxs⟩
   ·simp at hm
    subst hm
    exact ⟨e, m1, hk, zq51⟩
  ·rintro ⟨x, hx, hxk, hxs⟩
   simp only [Array.contains_push, Bool.or_eq_true] at hxs
   by_cases hxe : x = e
   ·subst hxe
    rw [hxk] at hk
    cases hk
    exact .inr zq51
   ·refine .inl ⟨x, hx, hxk, ?_⟩
    rcases hxs with hxs | hxs
    ·exact hxs
    ·exact absurd (inj_of_nodup_map hborn hx m1 (by simpa using hxs)) hxe
 ·have := left_shrinks es seen e he
  simp
  omega
set_option maxHeartbeats 4000000 in
set_option maxRecDepth 100000 in
theorem inspect_numbers.calls (g : Nat) (mv : Value) (base : Nat) (f : Value → List Int) (L : List Int) (w : World) (hg : w.heap[g]? = some (.cells #[mv] 90 (0, 0))) (hm : mv = .map none ∧ f = (fun _ => []) ∨ ∃ b, mv = .map (some b) ∧ Groups Try.prog 3 46 .u8 w base b f)
  (hL : L.length ≤ 512) (hbd : ∀ key, f key ≠ [] → ∃ n ∈ L, key = .int .i64 n) :
  Calls Try.prog 44 #[.pointer (some ⟨g, 0, none⟩)] w fun e w' => ∃ v zs, e = .returned v ∧ w'.ownsRow w.heap.size 3 1 v zs.length (nums .i64 zs) ∧ zs.length ≤ 512 ∧ zs.Pairwise (· < ·) ∧ (∀ n : Int, n ∈ zs ↔ f (.int .i64 n) ≠ []) ∧ Below w.heap.size w w' := by
 rcases hm with ⟨rfl, hf⟩ | ⟨b, rfl, hG⟩
 ·have hc := (blk_cell hg 0).trans (rfl : _ = some (Value.map none))
  have hrg := run_range_nilMap (P := Try.prog) w 88 3 74 Try.underlying88
  have hnx := fun ty => run_next_nilMap (P := Try.prog) w ty 0 0 #[]
  have hso := Try.slices_Sort_int_none none 0
  have hb := (Below.refl w.heap.size w).alloc (Nat.le_refl _) (.mapIter none 0 #[] 0)
  have HB := Aside0.mk hb
  clear hb hg
  go_enter Try.func44, Try.ntmps44
  go_wp2
  go_loopg [3] 1 (fun gg s3 wr => s3 = .slice none 0 0 ∧ wr = w.alloc (.mapIter none 0 #[] 0))
  case atStart => exact ⟨rfl, rfl⟩
  case round =>
   obtain ⟨rfl, rfl⟩ := hrel
   go_wp2_with (go_at_call 67; (with_reducible refine (hso _).mono ?_); rintro e wc ⟨rfl, rfl⟩)
   go_ret
   refine ⟨_, [], rfl, own_nil _ _ _ _, zq51, List.Pairwise.nil, fun n => ?_, HB.out⟩
   rw [hf]
   simp
 ·have hc := (blk_cell hg 0).trans (rfl : _ = some (Value.map (some b)))
  obtain ⟨es, clock, h1, ⟨s1, s2, s3⟩, h3, h4, h5⟩ := hG
  have hrg := run_range_map (P := Try.prog) w 88 3 74 b es clock Try.underlying88 h1
  have HB0 := Aside0.mk ((Below.refl w.heap.size w).alloc (Nat.le_refl _) (.mapIter (some b) clock #[] clock))
  have HI0 := Aside0.mk (blk_new w (.mapIter (some b) clock #[] clock))
  have HM0 := Aside0.mk (blk_alloc h1 (.mapIter (some b) clock #[] clock))
  have hbl := blk_lt h1
  have HKEYS : Aside0 (∀ x ∈ es.toList, ∃ n : Int, x.key = .int .i64 n ∧ n ∈ L ∧ f x.key ≠ []) := ⟨fun x hx => by
   obtain ⟨_, h6, _⟩ := h3 x hx
   obtain ⟨n, hn, he⟩ := hbd x.key h6
   exact ⟨n, he, hn, h6⟩⟩
  have HMEM : Aside0 (∀ n : Int, f (.int .i64 n) ≠ [] → ∃ x ∈ es.toList, x.key = .int .i64 n) := ⟨fun n hn => h4 _ hn⟩
  have HBORN := Aside0.mk s1
  have HS2 := Aside0.mk s2
  have HS3 := Aside0.mk s3
  have HLL := Aside0.mk hL
  have HBL := Aside0.mk hbl
  clear h1 s1 s2 s3 h3 h4 h5 hg hbd hbl
  go_enter Try.func44, Try.ntmps44
  go_wp2
  go_loopg [3] (es.size + 1) (fun gg s3 wr => ∃ (v3 : Value) (ks : List Int) (seen : Array Nat) (c0 : Nat), v3 = s3 ∧ Aside0 (Handed0 es seen ks ∧ (leftOf es seen).size + 1 ≤ gg ∧ clock ≤ c0) ∧ Aside0 (Below w.heap.size w wr) ∧ Aside0 (wr.heap[b]? = some (.map es clock)) ∧
   Aside0 (wr.heap[w.heap.size]? = some (.mapIter (some b) clock seen c0)) ∧ Aside0 (Kd.R (Kd.int .i64) 3 wr (w.heap.size + 1) (fun _ => True) v3 ks))
  case atStart =>
   have h0 := Handed0.start es
   exact ⟨_, [], #[], clock, rfl, ⟨h0, by have := h0.2.2; omega, Nat.le_refl _⟩, HB0, HM0, HI0, ⟨Kd.R_nil _ _ _ _ _⟩⟩
  case round =>
   obtain ⟨v3, ks, seen, c0, rfl, hi, HB, HM, HI, HR⟩ := hrel
   clear hrg
   have hks : ks.length ≤ 512 := Nat.le_trans (nodup_le ks L hi.out.1.1 (fun n hn => by
    obtain ⟨x, hx, hxk, _⟩ := (hi.out.1.2.1 n).1 hn
    obtain ⟨m, hm, hmL, _⟩ := HKEYS.out x hx
    rw [hxk] at hm
    cases hm
    exact hmL)) HLL.out
   have HKL := Aside0.mk hks
   clear hks
   rcases run_next_at (P := Try.prog) wr 0 w.heap.size b clock c0 seen es clock HI.out HM.out HBORN.out hi.out.2.2 with ⟨hz, hn⟩ | ⟨e, he, w1, hw1, hn⟩
   ·have hown := Kd.own_of_R HR.out
    have hsrt := sort_own hown (by have := HKL.out; omega)
    have HOWN := Aside0.mk hown
    have HZ := Aside0.mk hz
    clear hown hz
    go_wp2_with (go_at_call 67; (with_reducible refine hsrt.mono ?_); rintro e wc ⟨rfl, ho, hgr⟩; have HO := Aside0.mk ho; have HGR := Aside0.mk hgr; clear ho hgr)
    go_ret
    have hlen : (ks.mergeSort (fun x y => decide (x ≤ y))).length = ks.length := List.length_mergeSort _
    refine ⟨v3, ks.mergeSort (fun x y => decide (x ≤ y)), rfl, ?_, by rw [hlen]; exact HKL.out, sorted_lt hi.out.1.1, fun n => ?_, HB.out.grown HGR.out HB.out.size (fun k hk => by have := own_base HOWN.out k hk; omega)⟩
    ·rw [hlen]
     exact own_weaken HO.out zq18
    ·rw [List.mem_mergeSort, hi.out.1.2.1 n]
     constructor
     ·rintro ⟨x, hx, hxk, _⟩
      obtain ⟨_, _, _, hf⟩ := HKEYS.out x hx
      rwa [hxk] at hf
     ·intro hn
      obtain ⟨x, hx, hxk⟩ := HMEM.out n hn
      exact ⟨x, hx, hxk, all_seen es seen HZ.out x hx⟩
   ·obtain ⟨m1, m2⟩ := mem_left he
    obtain ⟨n, hk, hnL, hfn⟩ := HKEYS.out e m1
    have hstep := hi.out.1.step he hk HS3.out HS2.out
    have hshr := left_shrinks es seen e he
    have hw1h : w1.heap = wr.heap := by rcases hw1 with rfl | rfl <;> rfl
    have hw1b : Below w.heap.size w w1 := by
     rcases hw1 with rfl | rfl
     ·exact HB.out
     ·exact HB.out.drew
    have hi1 : w1.heap[w.heap.size]? = some (.mapIter (some b) clock seen c0) := by rw [hw1h]; exact HI.out
    have hB2 := below_setBlock (o := .mapIter (some b) clock (seen.push e.born) clock) (b := w.heap.size) hw1b (Nat.le_refl _)
    have hother : ∀ k, k ≠ w.heap.size → (setBlock w1 w.heap.size (.mapIter (some b) clock (seen.push e.born) clock)).heap[k]? = wr.heap[k]? := fun k hk => by
     simp only [setBlock]
     rw [Array.getElem?_setIfInBounds_ne zq18, hw1h]
    have hM2 := (hother b (by have := HBL.out; omega)).trans HM.out
    have hI2 : (setBlock w1 w.heap.size (.mapIter (some b) clock (seen.push e.born) clock)).heap[w.heap.size]? = some (.mapIter (some b) clock (seen.push e.born) clock) := by
     simp only [setBlock]
     rw [Array.getElem?_setIfInBounds_self_of_lt (blk_lt hi1)]
    have hR2 := Kd.R_mono (ok' := fun _ => True) (Kd.R_move (w1 := setBlock w1 w.heap.size (.mapIter (some b) clock (seen.push e.born) clock)) (Kd.R_bound HR.out) (fun k hk => hother k (by have := hk.2.1; omega))) (fun _ _ => trivial)
    generalize setBlock w1 w.heap.size (.mapIter (some b) clock (seen.push e.born) clock) = W2 at hn hB2 hM2 hI2 hR2
    have hen := run_entry_at (P := Try.prog) W2 w.heap.size b clock seen es clock e hI2 hM2 m1 HS2.out
    rw [hk] at hn hen
    obtain ⟨inner, hin⟩ := Kd.R_own hR2
    have HIN := Aside0.mk hin
    have HB2 := Aside0.mk hB2
    have HM2 := Aside0.mk hM2
    have HI2 := Aside0.mk hI2
    have HR2 := Aside0.mk hR2
    have HST := Aside0.mk (And.intro hstep (And.intro hshr hi.out.2))
    clear hin hB2 hM2 hI2 hR2 hstep hshr hother hi1 hw1b hw1h hw1 he m1 m2 hk hnL hfn
    go_wp2_with (((with_reducible refine gate_dst (N := 17) rfl ?_); go_must (refine Kd.R_append (Kd.int .i64) (w0 := W2) (W := W2) (w.heap.size + 1) rfl (.tmp 14) (.tmp 16) 29 3 (.int .i64 0) 8 rfl Try.underlying29 info3 rfl zq50 zq18 v3 ks n [.int .i64 n] (fun _ => True) (fun _ => False) rfl rfl rfl (fun _ hk => hk.elim) (fun _ _ => trivial) HR2.out (Below.refl _ _) (blk_lt HI2.out) ?aL ?_); (case aL => have := HKL.out; omega); intro v1 wc ho hb hg hat; have HR3 := Aside0.mk ho; have HB3 := Aside0.mk hb; have HGR := Aside0.mk hg; clear ho hb hg hat))
    have hne : ∀ k, k < w.heap.size + 1 → some k ≠ v3.ownBlock := fun k hk e => by have := own_base HIN.out k e.symm; omega
    go_roundg ((leftOf es (seen.push e.born)).size + 1)
    case measure => have := HST.out.2; omega
    case rel => exact ⟨v1, ks ++ [n], seen.push e.born, clock, rfl, ⟨HST.out.1, zq18, Nat.le_refl _⟩, ⟨HB2.out.trans (HB3.out.mono zq18)⟩, ⟨(HGR.out.block b (blk_lt HM2.out) (hne b (by have := HBL.out; omega))).trans HM2.out⟩, ⟨(HGR.out.block w.heap.size (blk_lt HI2.out) (hne _ zq18)).trans HI2.out⟩, HR3⟩
set_option maxHeartbeats 4000000 in
set_option maxRecDepth 100000 in
theorem index_u8 (A : Option Addr) (c : Nat) (xs : List Int) (x : Int) (w : World) (hr : Kd.C (Kd.int .u8) w A xs.length xs) (hl : xs.length ≤ 512) :
  Calls Try.prog 83 #[.slice A xs.length c, .int .u8 x] w fun e w' => e = .returned (.int .i64 (idxOf (fun y => y == x) xs)) ∧ w' = w := by
 have HR := Aside0.mk hr
 have HL := Aside0.mk hl
 clear hr hl
 go_enter Try.func83, Try.ntmps83
 go_wp2
 go_loopg [8] xs.length (fun gg s8 wr => ∃ i : Nat, s8 = .int .i64 (i : Int) ∧ wr = w ∧ Aside0 (i ≤ xs.length ∧ xs.length - i ≤ gg ∧ ∀ j, j < i → (xs.getD j 0 == x) = false))
 case atStart => exact ⟨0, rfl, rfl, ⟨zq18, zq18, fun j hj => by omega⟩⟩
 case round =>
  obtain ⟨i, rfl, rfl, hi⟩ := hrel
  by_cases hlt : i < xs.length
  ·have hlt' : (i : Int) < (xs.length : Int) := by omega
   have hb0 : decide (i < xs.length) = true := decide_eq_true hlt
   have hq0 : 0 ≤ (i : Int) := by omega
   have hq1 : (i : Int) ≤ 511 := by have := HL.out; omega
   obtain ⟨ad, cs, rfl, _, hK, hc0⟩ := Kd.C_get HR.out (0 : Int) (i : Int) hq0 hlt'
   obtain rfl : cs = [.int .u8 (xs.getD (i : Int).toNat 0)] := hK
   have hx := hc0 0 _ rfl
   simp only [show (Kd.int .u8).sz = 1 from rfl, Nat.mul_one, Nat.add_zero, Int.toNat_natCast] at hx
   clear hc0
   by_cases he : xs.getD i 0 = x
   ·have hidx : idxOf (fun y => y == x) xs = (i : Int) := idxOf_hit _ 0 xs i hlt hi.out.2.2 (by simpa using he)
    rw [he] at hx
    have HI := Aside0.mk hidx
    clear hidx he
    go_wp2
    go_ret
    exact ⟨by rw [HI.out]; rfl, rfl⟩
   ·have heb : (x == xs.getD i 0) = false := by simp; exact fun e => he e.symm
    have HN := Aside0.mk he
    generalize hy : xs.getD i 0 = y at hx heb
    have HY := Aside0.mk hy
    clear he hy
    go_wp2
    go_roundg (xs.length - (i + 1))
    case measure => have := hi.out; omega
    case rel =>
     refine ⟨i + 1, zq54, rfl, ⟨zq18, zq18, fun j hj => ?_⟩⟩
     by_cases hj' : j = i
     ·subst hj'; simpa using HN.out
     ·exact hi.out.2.2 j zq18
  ·have hlen : i = xs.length := by have := hi.out; omega
   have hb0 : decide (i < xs.length) = false := decide_eq_false hlt
   have hidx : idxOf (fun y => y == x) xs = -1 := idxOf_miss _ 0 xs (fun j hj => hi.out.2.2 j zq18)
   have HI := Aside0.mk hidx
   clear hidx hlen
   go_wp2
   go_ret
   exact ⟨by rw [HI.out]; rfl, rfl⟩
set_option maxHeartbeats 4000000 in
theorem contains_u8 (A : Option Addr) (c : Nat) (xs : List Int) (x : Int) (w : World) (hr : Kd.C (Kd.int .u8) w A xs.length xs) (hl : xs.length ≤ 512) :
  Calls Try.prog 68 #[.slice A xs.length c, .int .u8 x] w fun e w' => e = .returned (.bool (xs.any (fun y => y == x))) ∧ w' = w := by
 have hi := index_u8 A c xs x w hr hl
 have ha := idxOf_any (fun y => y == x) xs
 generalize idxOf (fun y => y == x) xs = k at hi ha
 rw [← ha]
 clear ha hr
 go_enter Try.func68, Try.ntmps68
 go_wp2_with (go_at_call 83; (with_reducible refine hi.mono ?_); rintro e w1 ⟨rfl, rfl⟩)
 go_ret
 exact ⟨rfl, rfl⟩
def stateS (xs : List Int) : Int := if xs.any (fun y => y == 3) = true then 3 else if xs.any (fun y => y == 0) = true then 0 else 2
set_option maxHeartbeats 4000000 in
theorem inspect_state.calls (A : Option Addr) (c : Nat) (xs : List Int) (w : World) (hr : Kd.C (Kd.int .u8) w A xs.length xs) (hl : xs.length ≤ 512) :
  Calls Try.prog 45 #[.slice A xs.length c] w fun e w' => e = .returned (.int .u8 (stateS xs)) ∧ w' = w := by
 have h3 := contains_u8 A c xs 3 w hr hl
 have h0 := contains_u8 A c xs 0 w hr hl
 unfold stateS
 generalize xs.any (fun y => y == 3) = b3 at h3
 generalize xs.any (fun y => y == 0) = b0 at h0
 clear hr
 cases b3 <;> cases b0 <;> (go_enter Try.func45, Try.ntmps45; go_wp2_with (first | (go_at_call 68; (with_reducible refine h3.mono ?_); rintro e w1 ⟨rfl, rfl⟩) | (go_at_call 68; (with_reducible refine h0.mono ?_); rintro e w1 ⟨rfl, rfl⟩)); go_ret; exact ⟨rfl, rfl⟩)
def putS (n : Int) : List Int → List Int
 | [] => [n]
 | x :: l => if x < n then x :: putS n l else if x = n then x :: l else n :: x :: l
theorem mem_putS (n m : Int) : ∀ l, m ∈ putS n l ↔ m = n ∨ m ∈ l
 | [] => by simp [putS]
 | x :: l => by
  unfold putS
  split
  ·simp only [List.mem_cons, mem_putS n m l]
   constructor
   ·rintro (h | h | h)
    ·exact .inr (.inl h)
    ·exact .inl h
    ·exact .inr (.inr h)
   ·rintro (h | h | h)
    ·exact .inr (.inl h)
    ·exact .inl h
    ·exact .inr (.inr h)
  ·split
   ·rename_i h
    subst h
    simp
   ·simp
theorem sorted_putS (n : Int) : ∀ l : List Int, l.Pairwise (· < ·) → (putS n l).Pairwise (· < ·)
 | [], _ => by simp [putS]
 | x :: l, h => by
  rw [List.pairwise_cons] at h
  unfold putS
  split
  ·rename_i hx
   rw [List.pairwise_cons]
   refine ⟨fun a ha => ?_, sorted_putS n l h.2⟩
   rcases (mem_putS n a l).1 ha with rfl | ha
   ·exact hx
   ·exact h.1 a ha
  ·split
   ·exact List.pairwise_cons.2 h
   ·rename_i h1 h2
    rw [List.pairwise_cons]
    refine ⟨fun a ha => ?_, List.pairwise_cons.2 h⟩
    rcases List.mem_cons.1 ha with rfl | ha
    ·omega
    ·have := h.1 a ha
     omega
theorem sorted_ext : ∀ {l m : List Int}, l.Pairwise (· < ·) → m.Pairwise (· < ·) → (∀ x, x ∈ l ↔ x ∈ m) → l = m
 | [], [], _, _, _ => rfl
 | [], b :: m, _, _, h => by have := (h b).2 zq51; simp at this
 | a :: l, [], _, _, h => by have := (h a).1 zq51; simp at this
 | a :: l, b :: m, hl, hm, h => by
  rw [List.pairwise_cons] at hl hm
  have hab : a = b := by
   have h1 := (h a).1 zq51
   have h2 := (h b).2 zq51
   rcases List.mem_cons.1 h1 with h1 | h1
   ·exact h1
   ·rcases List.mem_cons.1 h2 with h2 | h2
    ·exact h2.symm
    ·have := hl.1 b h2
     have := hm.1 a h1
     omega
  subst hab
  rw [sorted_ext hl.2 hm.2 (fun x => ?_)]
  constructor
  ·intro hx
   rcases List.mem_cons.1 ((h x).1 (by simp [hx])) with h1 | h1
   ·have := hl.1 x hx
    omega
   ·exact h1
  ·intro hx
   rcases List.mem_cons.1 ((h x).2 (by simp [hx])) with h1 | h1
   ·have := hm.1 x hx
    omega
   ·exact h1
def lotsP (l : List S45) : Nat → List Int
 | 0 => []
 | i + 1 => if keptB l i = true then putS (l.getD i z45).f2 (lotsP l i) else lotsP l i
theorem lotsP_sorted (l : List S45) : ∀ i, (lotsP l i).Pairwise (· < ·)
 | 0 => List.Pairwise.nil
 | i + 1 => by
  unfold lotsP
  split
  ·exact sorted_putS _ _ (lotsP_sorted l i)
  ·exact lotsP_sorted l i
theorem putS_len (n : Int) : ∀ l : List Int, (putS n l).length ≤ l.length + 1
 | [] => by simp [putS]
 | x :: l => by
  have := putS_len n l
  unfold putS
  split
  ·simp only [List.length_cons]; omega
  ·split
   ·simp only [List.length_cons]; omega
   ·simp only [List.length_cons]; omega
theorem lotsP_len (l : List S45) : ∀ i, (lotsP l i).length ≤ i
 | 0 => by simp [lotsP]
 | i + 1 => by
  have := lotsP_len l i
  unfold lotsP
  split
  ·have := putS_len (l.getD i z45).f2 (lotsP l i); omega
  ·omega
theorem shelfP_key (every : Int) (fl : List S58) (st : List S56) (l : List S45) (k : Value) : ∀ i, shelfP every fl st l i k ≠ [] ↔ ∃ n, n ∈ lotsP l i ∧ k = .int .i64 n
 | 0 => by simp [shelfP, lotsP]
 | i + 1 => by
  have ih := shelfP_key every fl st l k i
  unfold shelfP lotsP
  split
  ·unfold put1
   cases hk : isInt k (l.getD i z45).f2
   ·rw [if_neg zq50, ih]
    constructor
    ·rintro ⟨n, h1, h2⟩
     exact ⟨n, (mem_putS _ _ _).2 (.inr h1), h2⟩
    ·rintro ⟨n, h1, h2⟩
     rcases (mem_putS _ _ _).1 h1 with h1 | h1
     ·rw [h2, h1, isInt_self] at hk
      cases hk
     ·exact ⟨n, h1, h2⟩
   ·rw [if_pos rfl]
    exact ⟨fun _ => ⟨_, (mem_putS _ _ _).2 (.inl rfl), isInt_true hk⟩, fun _ => by simp⟩
  ·exact ih
def lotState (every : Int) (fl : List S58) (st : List S56) (l : List S45) (n : Int) : Int := stateS (shelfP every fl st l l.length (.int .i64 n))
def lotsF (a0_0 : Int) (l0_1 : List S58) (l0_2 : List S56) (l1 : List S45) : List Int × List Int × List Int × Int :=
 if logS a0_0 l0_1 l0_2 l1 ≠ 0 then ([], [], [], logS a0_0 l0_1 l0_2 l1) else
 ((lotsP l1 l1.length).filter (fun n => lotState a0_0 l0_1 l0_2 l1 n == 2), (lotsP l1 l1.length).filter (fun n => lotState a0_0 l0_1 l0_2 l1 n == 3), (lotsP l1 l1.length).filter (fun n => !(lotState a0_0 l0_1 l0_2 l1 n == 2) && !(lotState a0_0 l0_1 l0_2 l1 n == 3)), 0)
def inspect_Lots.f (a0_0 : Int) (l0_1 : List S58) (l0_2 : List S56) (l1 : List S45) : Option (List Int × List Int × List Int × Int) := some (lotsF a0_0 l0_1 l0_2 l1)
theorem R_keep3 {α : Type} {d : Kd α} {e base : Nat} {Q : Nat → Prop} {W w1 : World} {v v1 u : Value} {xs : List α} (h : d.R e W base (fun k => some k ≠ v.ownBlock ∧ Q k) u xs) (hg : W.grownBy w1 v.ownBlock) (hat : v1.ownBlock = v.ownBlock ∨ ∃ b, v1.ownBlock = some b ∧ W.heap.size ≤ b) : d.R e w1 base (fun k => some k ≠ v1.ownBlock ∧ Q k) u xs :=
 Kd.R_mono (Kd.R_grown (Kd.R_bound h) hg (fun k hk => hk.1.1)) (fun k hk => ⟨fun e1 => by
  rcases hat with h1 | ⟨b, h1, h2⟩
  ·exact hk.1.1 (by rw [← h1, e1])
  ·rw [h1] at e1
   cases e1
   have := hk.2.2.1
   omega, hk.1.2⟩)
theorem rd_nat (L : List Int) (i : Nat) (h : i < L.length) : rd L (i : Int) = L[i] := by
 unfold rd
 rw [Int.toNat_natCast, List.getD_eq_getElem?_getD, List.getElem?_eq_getElem h, Option.getD_some]
theorem posP_mem (every : Int) (fl : List S58) (st : List S56) (l : List S45) (v x : Int) : ∀ n, x ∈ posP every fl st l v n ↔ ∃ i : Nat, i < n ∧ x = (i : Int) ∧ vdS every fl st l i = v
 | 0 => by simp [posP]
 | n + 1 => by
  have ih := posP_mem every fl st l v x n
  unfold posP
  split
  ·rename_i h
   rw [List.mem_append, ih, List.mem_singleton]
   constructor
   ·rintro (⟨i, h1, h2, h3⟩ | h1)
    ·exact ⟨i, zq18, h2, h3⟩
    ·exact ⟨n, zq18, h1, h⟩
   ·rintro ⟨i, h1, h2, h3⟩
    by_cases e : i = n
    ·subst e; exact .inr h2
    ·exact .inl ⟨i, zq18, h2, h3⟩
  ·rename_i h
   rw [ih]
   constructor
   ·rintro ⟨i, h1, h2, h3⟩
    exact ⟨i, zq18, h2, h3⟩
   ·rintro ⟨i, h1, h2, h3⟩
    by_cases e : i = n
    ·subst e; exact absurd h3 h
    ·exact ⟨i, zq18, h2, h3⟩
theorem judgeL_in (every : Int) (st : List S56) (l : List S45) (entry : Int) : ∀ (fl : List S58) (i : Nat) (wv : Int × Int), (wv.1 = 2 ∨ wv.1 = 0) → ((judgeL every st l entry fl i wv).1 = 0 ∨ (judgeL every st l entry fl i wv).1 = 2 ∨ (judgeL every st l entry fl i wv).1 = 3)
 | [], i, wv, h => by
  unfold judgeL
  rcases h with h | h
  ·exact .inr (.inl h)
  ·exact .inl h
 | x :: fl, i, wv, h => by
  unfold judgeL
  split
  ·exact .inr (.inr rfl)
  ·split
   ·exact judgeL_in every st l entry fl (i + 1) _ (.inr rfl)
   ·exact judgeL_in every st l entry fl (i + 1) _ h
theorem vdS_kept {every : Int} {fl : List S58} {st : List S56} {l : List S45} {i : Nat} (h : keptB l i = true) : vdS every fl st l i = 0 ∨ vdS every fl st l i = 2 ∨ vdS every fl st l i = 3 := by
 unfold keptB at h
 rw [Bool.and_eq_true] at h
 obtain ⟨h1, h2⟩ := h
 have h1 : (l.getD i z45).f1 = 1 := by simpa using h1
 have h2 : (l.getD i z45).f6 = false := by simpa using h2
 have hr : rd_T45 l (i : Int) = l.getD i z45 := rfl
 unfold vdS judgeS
 rw [if_pos h1, hr, h2, if_neg zq50]
 exact judgeL_in every st l i fl 0 _ (.inl rfl)
theorem vdS_not {every : Int} {fl : List S58} {st : List S56} {l : List S45} {i : Nat} (h : ¬ keptB l i = true) : vdS every fl st l i = 1 := by
 have hr : rd_T45 l (i : Int) = l.getD i z45 := rfl
 unfold vdS judgeS
 by_cases h1 : (l.getD i z45).f1 = 1
 ·rw [if_pos h1, hr]
  by_cases h2 : (l.getD i z45).f6 = true
  ·rw [if_pos h2]
  ·exact absurd (by unfold keptB; rw [h1, show (l.getD i z45).f6 = false from by simpa using h2]; rfl) h
 ·rw [if_neg h1]
theorem shelfP_mem (every : Int) (fl : List S58) (st : List S56) (l : List S45) (n x : Int) : ∀ k, x ∈ shelfP every fl st l k (.int .i64 n) ↔ ∃ i : Nat, i < k ∧ keptB l i = true ∧ (l.getD i z45).f2 = n ∧ vdS every fl st l i = x
 | 0 => by simp [shelfP]
 | k + 1 => by
  have ih := shelfP_mem every fl st l n x k
  unfold shelfP
  by_cases hk : keptB l k = true
  ·rw [if_pos hk]
   unfold put1
   have hi : isInt (.int .i64 n) (l.getD k z45).f2 = (n == (l.getD k z45).f2) := rfl
   rw [hi]
   by_cases hn : n = (l.getD k z45).f2
   ·rw [if_pos (by simpa using hn), List.mem_append, ih, List.mem_singleton]
    constructor
    ·rintro (⟨i, h1, h2⟩ | h1)
     ·exact ⟨i, zq18, h2⟩
     ·exact ⟨k, zq18, hk, hn.symm, h1.symm⟩
    ·rintro ⟨i, h1, h2, h3, h4⟩
     by_cases e : i = k
     ·subst e; exact .inr h4.symm
     ·exact .inl ⟨i, zq18, h2, h3, h4⟩
   ·rw [if_neg (by simpa using hn), ih]
    constructor
    ·rintro ⟨i, h1, h2⟩
     exact ⟨i, zq18, h2⟩
    ·rintro ⟨i, h1, h2, h3, h4⟩
     by_cases e : i = k
     ·subst e; exact absurd h3.symm hn
     ·exact ⟨i, zq18, h2, h3, h4⟩
  ·rw [if_neg hk, ih]
   constructor
   ·rintro ⟨i, h1, h2⟩
    exact ⟨i, zq18, h2⟩
   ·rintro ⟨i, h1, h2, h3, h4⟩
    by_cases e : i = k
    ·subst e; exact absurd h2 hk
    ·exact ⟨i, zq18, h2, h3, h4⟩
theorem lotsP_mem (l : List S45) (n : Int) : ∀ k, n ∈ lotsP l k ↔ ∃ i : Nat, i < k ∧ keptB l i = true ∧ (l.getD i z45).f2 = n
 | 0 => by simp [lotsP]
 | k + 1 => by
  have ih := lotsP_mem l n k
  unfold lotsP
  by_cases hk : keptB l k = true
  ·rw [if_pos hk, mem_putS, ih]
   constructor
   ·rintro (h1 | ⟨i, h1, h2⟩)
    ·exact ⟨k, zq18, hk, h1.symm⟩
    ·exact ⟨i, zq18, h2⟩
   ·rintro ⟨i, h1, h2, h3⟩
    by_cases e : i = k
    ·subst e; exact .inl h3.symm
    ·exact .inr ⟨i, zq18, h2, h3⟩
  ·rw [if_neg hk, ih]
   constructor
   ·rintro ⟨i, h1, h2⟩
    exact ⟨i, zq18, h2⟩
   ·rintro ⟨i, h1, h2, h3⟩
    by_cases e : i = k
    ·subst e; exact absurd h2 hk
    ·exact ⟨i, zq18, h2, h3⟩
def lotHas (every : Int) (fl : List S58) (st : List S56) (l : List S45) (n v : Int) : Prop := ∃ i : Nat, i < l.length ∧ (l.getD i z45).f2 = n ∧ vdS every fl st l i = v
theorem shelf_has (every : Int) (fl : List S58) (st : List S56) (l : List S45) (n v : Int) (hv : v ≠ 1) : v ∈ shelfP every fl st l l.length (.int .i64 n) ↔ lotHas every fl st l n v := by
 rw [shelfP_mem]
 constructor
 ·rintro ⟨i, h1, h2, h3, h4⟩
  exact ⟨i, h1, h3, h4⟩
 ·rintro ⟨i, h1, h3, h4⟩
  refine ⟨i, h1, ?_, h3, h4⟩
  by_cases hk : keptB l i = true
  ·exact hk
  ·exact absurd ((vdS_not (every := every) (fl := fl) (st := st) hk).symm.trans h4).symm hv
theorem state_3 (every : Int) (fl : List S58) (st : List S56) (l : List S45) (n : Int) : lotState every fl st l n = 3 ↔ lotHas every fl st l n 3 := by
 rw [← shelf_has every fl st l n 3 zq50]
 unfold lotState stateS
 by_cases h : (shelfP every fl st l l.length (.int .i64 n)).any (fun y => y == 3) = true
 ·rw [if_pos h]
  rw [List.any_eq_true] at h
  obtain ⟨x, hx, he⟩ := h
  have : x = 3 := by simpa using he
  subst this
  simp [hx]
 ·rw [if_neg h]
  have h3 : ¬ (3 : Int) ∈ shelfP every fl st l l.length (.int .i64 n) := fun hm => h (List.any_eq_true.2 ⟨3, hm, zq50⟩)
  constructor
  ·intro e
   split at e <;> simp at e
  ·intro e
   exact absurd e h3
theorem state_2 (every : Int) (fl : List S58) (st : List S56) (l : List S45) (n : Int) : lotState every fl st l n = 2 ↔ ¬ lotHas every fl st l n 3 ∧ ¬ lotHas every fl st l n 0 := by
 rw [← shelf_has every fl st l n 3 zq50, ← shelf_has every fl st l n 0 zq50]
 unfold lotState stateS
 have key : ∀ v : Int, (shelfP every fl st l l.length (.int .i64 n)).any (fun y => y == v) = true ↔ v ∈ shelfP every fl st l l.length (.int .i64 n) := fun v => by
  rw [List.any_eq_true]
  constructor
  ·rintro ⟨x, hx, he⟩
   have : x = v := by simpa using he
   rw [← this]; exact hx
  ·intro h
   exact ⟨v, h, zq51⟩
 by_cases h : (shelfP every fl st l l.length (.int .i64 n)).any (fun y => y == 3) = true
 ·rw [if_pos h]
  have := (key 3).1 h
  constructor
  ·intro e; exact absurd e zq50
  ·rintro ⟨h1, _⟩; exact absurd this h1
 ·rw [if_neg h]
  by_cases h0 : (shelfP every fl st l l.length (.int .i64 n)).any (fun y => y == 0) = true
  ·rw [if_pos h0]
   have := (key 0).1 h0
   constructor
   ·intro e; exact absurd e zq50
   ·rintro ⟨_, h1⟩; exact absurd this h1
  ·rw [if_neg h0]
   exact ⟨fun _ => ⟨fun e => h ((key 3).2 e), fun e => h0 ((key 0).2 e)⟩, fun _ => rfl⟩
theorem judgeF_ok {every : Int} {fl : List S58} {st : List S56} {l : List S45} (h : logS every fl st l = 0) (i : Nat) (hi : i < l.length) (hk : (rd_T45 l (i : Int)).f1 = 1) : judgeF every fl st l i = ((judgeS every fl st l i).1, (judgeS every fl st l i).2, 0) := by
 unfold judgeF
 rw [if_neg (fun x => x h), if_neg (show ¬ win (i : Int) 0 ((l.length : Int) - 1) = false from by unfold win; rw [decide_eq_true (show (0 : Int) ≤ i by omega), decide_eq_true (show (i : Int) ≤ (l.length : Int) - 1 by omega)]; decide), if_neg (fun x => x hk)]
end Go.Proofs.Ytbpebehbfpgjbaa.P
end
section
namespace Go.Proofs.Ytbpebehbfpgjbaa.P
open Go.RowKit Go.Proofs.YtbpebehbfpgjbaaW.PrintWords Go.Proofs.YtbpebehbfpgjbaaW.PrintLast Go.Proofs.YtbpebehbfpgjbaaW.PrintMore
attribute [local go_sem] max2_int min2_int max_two min_two max_three min_three max_four min_four
set_option linter.unusedVariables false
set_option linter.unusedSimpArgs false
mutual
def culletlaw07_many.j0 : Nat → Bool → Int → List (S58) → List (S56) → Option (Bool)
 | 0, _, _, _, _ => none
 | k + 1, x32, x102000, x102001, x102002 => if x32 = true then (some true) else (culletlaw07_many.l0 k 0 0 x102000 x102001 x102002)
def culletlaw07_many.l0 : Nat → Int → Int → Int → List (S58) → List (S56) → Option (Bool)
 | 0, _, _, _, _, _ => none
 | k + 1, x5, x6, x102000, x102001, x102002 => if x6 < (x102001.length : Int) then (if 0 ≤ x6 then (culletlaw07_many.l0 k (wrap64 (x5 + (((rd_T58 x102001 x6).f0).size : Int))) (wrap64 (x6 + 1)) x102000 x102001 x102002) else (none)) else (culletlaw07_many.l1 k x5 0 x102000 x102001 x102002)
def culletlaw07_many.l1 : Nat → Int → Int → Int → List (S58) → List (S56) → Option (Bool)
 | 0, _, _, _, _, _ => none
 | k + 1, x5, x7, x102000, x102001, x102002 => if x7 < (x102002.length : Int) then (if 0 ≤ x7 then (culletlaw07_many.l1 k (wrap64 ((wrap64 (x5 + (((rd_T56 x102002 x7).f0).size : Int))) + (((rd_T56 x102002 x7).f1).length : Int))) (wrap64 (x7 + 1)) x102000 x102001 x102002) else (none)) else (some (decide (x5 > 600)))
end
def culletlaw07_many.f (k : Nat) (a0_0 : Int) (l0_1 : List (S58)) (l0_2 : List (S56)) (l1 : List (S45)) : Option (Bool) := if (l0_1.length : Int) > 20 then (culletlaw07_many.j0 k true a0_0 l0_1 l0_2) else (if (l0_2.length : Int) > 20 then (culletlaw07_many.j0 k true a0_0 l0_1 l0_2) else (if (l1.length : Int) > 40 then (if (l1.length : Int) ≤ 512 then (culletlaw07_many.j0 k true a0_0 l0_1 l0_2) else (culletlaw07_many.j0 k (decide ((l1.length : Int) > 600)) a0_0 l0_1 l0_2)) else (culletlaw07_many.j0 k (decide ((l1.length : Int) > 600)) a0_0 l0_1 l0_2)))
set_option maxHeartbeats 8000000 in
set_option maxRecDepth 100000 in
theorem culletlaw07_many.calls (k : Nat) (a0_0 : Int) (A0_1 : Option Addr) (c0_1 : Nat) (l0_1 : List (S58)) (A0_2 : Option Addr) (c0_2 : Nat) (l0_2 : List (S56)) (A1 : Option Addr) (c1 : Nat) (l1 : List (S45)) (r : Bool) (w : World) (hr0_1 : Kd.C k58 w A0_1 l0_1.length l0_1) (hc0_1 : l0_1.length ≤ c0_1) (hr0_2 : Kd.C k56 w A0_2 l0_2.length l0_2) (hc0_2 : l0_2.length ≤ c0_2) (hr1 : Kd.C k45 w A1 l1.length l1) (hc1 : l1.length ≤ c1) (h : culletlaw07_many.f k a0_0 l0_1 l0_2 l1 = some r) :
  Calls Try.prog 10 #[.agg #[.int .i64 a0_0, .slice A0_1 l0_1.length c0_1, .slice A0_2 l0_2.length c0_2], .slice A1 l1.length c1] w fun e w' => e = .returned (.bool r) ∧ Below w.heap.size w w' := by
 have hu25 := Try.underlying25
 have HR0_1 := Aside0.mk hr0_1
 have HC0_1 := Aside0.mk hc0_1
 clear hr0_1 hc0_1
 have HR0_2 := Aside0.mk hr0_2
 have HC0_2 := Aside0.mk hc0_2
 clear hr0_2 hc0_2
 have HR1 := Aside0.mk hr1
 have HC1 := Aside0.mk hc1
 clear hr1 hc1
 have HB := Aside0.mk (Below.refl w.heap.size w)
 have H : (if (l0_1.length : Int) > 20 then (culletlaw07_many.j0 k true a0_0 l0_1 l0_2) else (if (l0_2.length : Int) > 20 then (culletlaw07_many.j0 k true a0_0 l0_1 l0_2) else (if (l1.length : Int) > 40 then (if (l1.length : Int) ≤ 512 then (culletlaw07_many.j0 k true a0_0 l0_1 l0_2) else (culletlaw07_many.j0 k (decide ((l1.length : Int) > 600)) a0_0 l0_1 l0_2)) else (culletlaw07_many.j0 k (decide ((l1.length : Int) > 600)) a0_0 l0_1 l0_2)))) = some r := h
 clear h
 have HC3 := Aside0.mk H
 clear H
 go_enter Try.func10, Try.ntmps10
 go_upto_region 1 with (first | ((with_reducible refine gate_dst (N := 2) rfl ?_); (try (refine gate_guard (by rfl) ?_; dsimp only)); refine box_event ?hg (N := 2) ?hd (cs := #[.int .i64 a0_0, .slice A0_1 l0_1.length c0_1, .slice A0_2 l0_2.length c0_2]) (t := 25) ?hr ?_; (case hd => rfl); (case hg => rfl); (case hr => exact zq13); intro gb101 hg w4 hbox hb; have n_ := as4 (below_step zq2 hb) (hbox) ((zq23 : w.heap.size ≤ gb101)) ((zq23 : w.heap.size ≤ gb101)); clear HB hb hbox hg; obtain ⟨HB, BK101, GW101, GE101⟩ := n_))
 repeat (go_quiet (first | ((with_reducible refine gate_dst (N := 2) rfl ?_); (try (refine gate_guard (by rfl) ?_; dsimp only)); refine box_event ?hg (N := 2) ?hd (cs := #[.int .i64 a0_0, .slice A0_1 l0_1.length c0_1, .slice A0_2 l0_2.length c0_2]) (t := 25) ?hr ?_; (case hd => rfl); (case hg => rfl); (case hr => exact zq13); intro gb101 hg w4 hbox hb; have n_ := as4 (below_step zq2 hb) (hbox) ((zq23 : w.heap.size ≤ gb101)) ((zq23 : w.heap.size ≤ gb101)); clear HB hb hbox hg; obtain ⟨HB, BK101, GW101, GE101⟩ := n_)); go_upto_region 1 with (first | ((with_reducible refine gate_dst (N := 2) rfl ?_); (try (refine gate_guard (by rfl) ?_; dsimp only)); refine box_event ?hg (N := 2) ?hd (cs := #[.int .i64 a0_0, .slice A0_1 l0_1.length c0_1, .slice A0_2 l0_2.length c0_2]) (t := 25) ?hr ?_; (case hd => rfl); (case hg => rfl); (case hr => exact zq13); intro gb101 hg w4 hbox hb; have n_ := as4 (below_step zq2 hb) (hbox) ((zq23 : w.heap.size ≤ gb101)) ((zq23 : w.heap.size ≤ gb101)); clear HB hb hbox hg; obtain ⟨HB, BK101, GW101, GE101⟩ := n_)))
 (try simp only [Act.put, List.setIfInBounds_toArray, List.set_cons_zero, List.set_cons_succ])
 go_cut [32] (fun v32 wc => ∃ (kq : Nat) (x32_2 : Bool), v32 = .bool x32_2 ∧ Aside0 (culletlaw07_many.j0 kq x32_2 a0_0 l0_1 l0_2 = some r) ∧ Aside0 (kq ≤ k) ∧ Aside0 (wc.heap[gb101]? = some (.cells #[.int .i64 a0_0, (.slice A0_1 l0_1.length c0_1), (.slice A0_2 l0_2.length c0_2)] 25 (0, 0))) ∧ Aside0 (Below w.heap.size w wc))
 case first =>
  have H := HC3.out
  clear HC3
  by_cases c5 : (l0_1.length : Int) > 20
  ·rw [if_pos c5] at H
   have c5b0 : decide (20 < (l0_1.length : Int)) = true := decide_eq_true c5
   have c5b1 : decide (20 < l0_1.length) = true := decide_eq_true zq18
   clear c5
   (first | rw [c5b0] | (simp only [i64_w, i32_w]; rw [c5b0]) | skip)
   have H' := Aside0.mk H
   clear H
   obtain ⟨hcz6_0, hcz6_1, hcz6_2, hfz6_0, hfz6_1, hfz6_2⟩ := bcs3 BK101.out
   go_wp2
   repeat (go_quiet (fail); try go_wp2)
   go_meet
   case rel => exact ⟨_, (true), zq20, H', ⟨zq44⟩, ⟨(zq0 BK101.out)⟩, ⟨zq11⟩⟩
  ·rw [if_neg c5] at H
   have c5b0 : decide (20 < (l0_1.length : Int)) = false := decide_eq_false c5
   have c5b1 : decide (20 < l0_1.length) = false := decide_eq_false zq18
   clear c5
   (first | rw [c5b0] | (simp only [i64_w, i32_w]; rw [c5b0]) | skip)
   by_cases c7 : (l0_2.length : Int) > 20
   ·rw [if_pos c7] at H
    have c7b0 : decide (20 < (l0_2.length : Int)) = true := decide_eq_true c7
    have c7b1 : decide (20 < l0_2.length) = true := decide_eq_true zq18
    clear c7
    have H' := Aside0.mk H
    clear H
    obtain ⟨hcz8_0, hcz8_1, hcz8_2, hfz8_0, hfz8_1, hfz8_2⟩ := bcs3 BK101.out
    go_wp2
    repeat (go_quiet (fail); try go_wp2)
    go_meet
    case rel => exact ⟨_, (true), zq20, H', ⟨zq44⟩, ⟨(zq0 BK101.out)⟩, ⟨zq11⟩⟩
   ·rw [if_neg c7] at H
    have c7b0 : decide (20 < (l0_2.length : Int)) = false := decide_eq_false c7
    have c7b1 : decide (20 < l0_2.length) = false := decide_eq_false zq18
    clear c7
    by_cases c9 : (l1.length : Int) > 40
    ·rw [if_pos c9] at H
     have c9b0 : decide (40 < (l1.length : Int)) = true := decide_eq_true c9
     have c9b1 : decide (40 < l1.length) = true := decide_eq_true zq18
     clear c9
     by_cases c10 : (l1.length : Int) ≤ 512
     ·rw [if_pos c10] at H
      have c10b0 : decide ((l1.length : Int) ≤ 512) = true := decide_eq_true c10
      have c10b1 : decide (l1.length ≤ 512) = true := decide_eq_true zq18
      clear c10
      have H' := Aside0.mk H
      clear H
      obtain ⟨hcz11_0, hcz11_1, hcz11_2, hfz11_0, hfz11_1, hfz11_2⟩ := bcs3 BK101.out
      go_wp2
      repeat (go_quiet (fail); try go_wp2)
      go_meet
      case rel => exact ⟨_, (true), zq20, H', ⟨zq44⟩, ⟨(zq0 BK101.out)⟩, ⟨zq11⟩⟩
     ·rw [if_neg c10] at H
      have c10b0 : decide ((l1.length : Int) ≤ 512) = false := decide_eq_false c10
      have c10b1 : decide (l1.length ≤ 512) = false := decide_eq_false zq18
      clear c10
      have H' := Aside0.mk H
      clear H
      obtain ⟨hcz12_0, hcz12_1, hcz12_2, hfz12_0, hfz12_1, hfz12_2⟩ := bcs3 BK101.out
      go_wp2
      repeat (go_quiet (fail); try go_wp2)
      go_meet
      case rel => exact ⟨_, (decide ((l1.length : Int) > 600)), zq20, H', ⟨zq44⟩, ⟨(zq0 BK101.out)⟩, ⟨zq11⟩⟩
    ·rw [if_neg c9] at H
     have c9b0 : decide (40 < (l1.length : Int)) = false := decide_eq_false c9
     have c9b1 : decide (40 < l1.length) = false := decide_eq_false zq18
     clear c9
     have H' := Aside0.mk H
     clear H
     obtain ⟨hcz13_0, hcz13_1, hcz13_2, hfz13_0, hfz13_1, hfz13_2⟩ := bcs3 BK101.out
     go_wp2
     repeat (go_quiet (fail); try go_wp2)
     go_meet
     case rel => exact ⟨_, (decide ((l1.length : Int) > 600)), zq20, H', ⟨zq44⟩, ⟨(zq0 BK101.out)⟩, ⟨zq11⟩⟩
 case rest =>
  clear HC3
  try clear c1
  try clear p2
  try clear c5
  try clear c5b0
  try clear c5b1
  try clear c7
  try clear c7b0
  try clear c7b1
  try clear c9
  try clear c9b0
  try clear c9b1
  try clear c10
  try clear c10b0
  try clear c10b1
  try clear hcz11_0 hcz11_1 hcz11_2 hfz11_0 hfz11_1 hfz11_2
  try clear hcz12_0 hcz12_1 hcz12_2 hfz12_0 hfz12_1 hfz12_2
  try clear hcz13_0 hcz13_1 hcz13_2 hfz13_0 hfz13_1 hfz13_2
  try clear hcz6_0 hcz6_1 hcz6_2 hfz6_0 hfz6_1 hfz6_2
  try clear hcz8_0 hcz8_1 hcz8_2 hfz8_0 hfz8_1 hfz8_2
  obtain ⟨kq, x32_2, rfl, HA, HJ2, BK101, HB⟩ := hcut
  cases kq with
  | zero => exact absurd HA.out (by simp [culletlaw07_many.j0])
  | succ kj2 =>
   have H := HA.out
   clear HA
   simp only [culletlaw07_many.j0] at H
   by_cases c14 : x32_2 = true
   ·subst c14
    have H1 : (some true) = some r := by rw [if_pos rfl] at H; exact H
    clear H
    have H := H1
    clear H1
    obtain rfl := Option.some.inj H
    go_wp2
    repeat (go_quiet (fail); try go_wp2)
    go_ret
    exact ⟨zq9, zq11⟩
   ·replace c14 := Bool.eq_false_iff.mpr c14
    subst c14
    have H1 : (culletlaw07_many.l0 kj2 0 0 a0_0 l0_1 l0_2) = some r := by rw [if_neg (show ¬ (false = true) by decide)] at H; exact H
    clear H
    have H := H1
    clear H1
    have H' := Aside0.mk H
    clear H
    go_wp2
    repeat (go_quiet (fail); try go_wp2)
    go_loopg [5, 6] kj2 (fun kq v5 v6 w' => ∃ (x5_2 : Int) (x6_2 : Int), v5 = .int .i64 x5_2 ∧ v6 = .int .i64 x6_2 ∧ Aside0 (culletlaw07_many.l0 kq x5_2 x6_2 a0_0 l0_1 l0_2 = some r) ∧ Aside0 (kq ≤ kj2) ∧ Aside0 (w'.heap[gb101]? = some (.cells #[.int .i64 a0_0, (.slice A0_1 l0_1.length c0_1), (.slice A0_2 l0_2.length c0_2)] 25 (0, 0))) ∧ Aside0 (Below w.heap.size w w'))
    case atStart => exact ⟨(0), (0), zq20, zq20, H', ⟨Nat.le_refl _⟩, ⟨(zq0 BK101.out)⟩, ⟨zq11⟩⟩
    case round =>
     clear H'
     try clear c1
     try clear p2 p2
     try clear c5
     try clear c5b0
     try clear c5b1
     try clear c7
     try clear c7b0
     try clear c7b1
     try clear c9
     try clear c9b0
     try clear c9b1
     try clear c10
     try clear c10b0
     try clear c10b1
     try clear c14
     try clear hcz11_0 hcz11_1 hcz11_2 hfz11_0 hfz11_1 hfz11_2
     try clear hcz12_0 hcz12_1 hcz12_2 hfz12_0 hfz12_1 hfz12_2
     try clear hcz13_0 hcz13_1 hcz13_2 hfz13_0 hfz13_1 hfz13_2
     try clear hcz6_0 hcz6_1 hcz6_2 hfz6_0 hfz6_1 hfz6_2
     try clear hcz8_0 hcz8_1 hcz8_2 hfz8_0 hfz8_1 hfz8_2
     obtain ⟨x5_2, x6_2, rfl, rfl, HA, HK2, BK101, HB⟩ := hrel
     cases gk with
     | zero => exact absurd HA.out (by simp [culletlaw07_many.l0])
     | succ k2 =>
      have H := HA.out
      clear HA
      simp only [culletlaw07_many.l0] at H
      by_cases c15 : x6_2 < (l0_1.length : Int)
      ·rw [if_pos c15] at H
       have c15b0 : decide (x6_2 < (l0_1.length : Int)) = true := decide_eq_true c15
       clear c15
       by_cases c16 : 0 ≤ x6_2
       ·rw [if_pos c16] at H
        have c16b0 : decide (0 ≤ x6_2) = true := decide_eq_true c16
        clear c16
        have H' := Aside0.mk H
        clear H
        obtain ⟨hcz17_0, hcz17_1, hcz17_2, hfz17_0, hfz17_1, hfz17_2⟩ := bcs3 BK101.out
        have p102 : 0 ≤ (x6_2 : Int) := of_decide_eq_true zq5
        have q102 : x6_2 < (l0_1.length : Int) := of_decide_eq_true zq5
        obtain ⟨ad102, e102, hx102_0, hx102_1⟩ := at_T58 HR0_1.out x6_2 p102 q102
        cases e102
        replace hx102_0 := hcx HB.out hx102_0
        replace hx102_1 := hcx HB.out hx102_1
        replace p102 := eq_true p102
        replace q102 := eq_true q102
        go_wp2
        repeat (go_quiet (fail); try go_wp2)
        go_roundg k2
        case measure => have := HJ2.out; have := HK2.out; omega
        case rel => exact ⟨(wrap64 (x5_2 + (((rd_T58 l0_1 x6_2).f0).size : Int))), (wrap64 (x6_2 + 1)), zq20, zq20, H', ⟨by have := HJ2.out; have := HK2.out; omega⟩, ⟨(zq0 BK101.out)⟩, ⟨zq11⟩⟩
       ·rw [if_neg c16] at H
        exact absurd H zq51
      ·rw [if_neg c15] at H
       have c15b0 : decide (x6_2 < (l0_1.length : Int)) = false := decide_eq_false c15
       clear c15
       have H' := Aside0.mk H
       clear H
       obtain ⟨hcz18_0, hcz18_1, hcz18_2, hfz18_0, hfz18_1, hfz18_2⟩ := bcs3 BK101.out
       go_wp2
       repeat (go_quiet (fail); try go_wp2)
       go_loopg [5, 7] k2 (fun kq v5 v7 w' => ∃ (x5_3 : Int) (x7_3 : Int), v5 = .int .i64 x5_3 ∧ v7 = .int .i64 x7_3 ∧ Aside0 (culletlaw07_many.l1 kq x5_3 x7_3 a0_0 l0_1 l0_2 = some r) ∧ Aside0 (kq ≤ k2) ∧ Aside0 (w'.heap[gb101]? = some (.cells #[.int .i64 a0_0, (.slice A0_1 l0_1.length c0_1), (.slice A0_2 l0_2.length c0_2)] 25 (0, 0))) ∧ Aside0 (Below w.heap.size w w'))
       case atStart => exact ⟨(x5_2), (0), zq20, zq20, H', ⟨Nat.le_refl _⟩, ⟨(zq0 BK101.out)⟩, ⟨zq11⟩⟩
       case round =>
        clear H'
        try clear c1
        try clear p1
        try clear q1
        try clear hx1
        try clear p2 p2
        try clear c5
        try clear c5b0
        try clear c5b1
        try clear p6
        try clear c7
        try clear c7b0
        try clear c7b1
        try clear c9
        try clear c9b0
        try clear c9b1
        try clear c10
        try clear c10b0
        try clear c10b1
        try clear p10
        try clear q10
        try clear hx10
        try clear c14
        try clear c15
        try clear c15b0
        try clear c16
        try clear c16b0
        try clear hcz11_0 hcz11_1 hcz11_2 hfz11_0 hfz11_1 hfz11_2
        try clear hcz12_0 hcz12_1 hcz12_2 hfz12_0 hfz12_1 hfz12_2
        try clear hcz13_0 hcz13_1 hcz13_2 hfz13_0 hfz13_1 hfz13_2
        try clear hcz17_0 hcz17_1 hcz17_2 hfz17_0 hfz17_1 hfz17_2
        try clear hcz18_0 hcz18_1 hcz18_2 hfz18_0 hfz18_1 hfz18_2
        try clear hcz6_0 hcz6_1 hcz6_2 hfz6_0 hfz6_1 hfz6_2
        try clear hcz8_0 hcz8_1 hcz8_2 hfz8_0 hfz8_1 hfz8_2
        try clear hx102_0
        try clear hx102_1
        try clear p102
        try clear q102
        obtain ⟨x5_3, x7_3, rfl, rfl, HA, HK3, BK101, HB⟩ := hrel
        cases gk with
        | zero => exact absurd HA.out (by simp [culletlaw07_many.l1])
        | succ k3 =>
         have H := HA.out
         clear HA
         simp only [culletlaw07_many.l1] at H
         by_cases c19 : x7_3 < (l0_2.length : Int)
         ·rw [if_pos c19] at H
          have c19b0 : decide (x7_3 < (l0_2.length : Int)) = true := decide_eq_true c19
          clear c19
          by_cases c20 : 0 ≤ x7_3
          ·rw [if_pos c20] at H
           have c20b0 : decide (0 ≤ x7_3) = true := decide_eq_true c20
           clear c20
           have H' := Aside0.mk H
           clear H
           obtain ⟨hcz21_0, hcz21_1, hcz21_2, hfz21_0, hfz21_1, hfz21_2⟩ := bcs3 BK101.out
           have p103 : 0 ≤ (x7_3 : Int) := of_decide_eq_true zq5
           have q103 : x7_3 < (l0_2.length : Int) := of_decide_eq_true zq5
           obtain ⟨ad103, A103_1, c103_1, e103, hx103_0, hx103_1, hl103_1, hi103_1⟩ := at_T56 HR0_2.out x7_3 p103 q103
           cases e103
           replace hx103_0 := hcx HB.out hx103_0
           replace hx103_1 := hcx HB.out hx103_1
           have HR103_1 := Aside0.mk hi103_1
           have HC103_1 := Aside0.mk hl103_1
           clear hi103_1 hl103_1
           replace p103 := eq_true p103
           replace q103 := eq_true q103
           have p104 : 0 ≤ (x7_3 : Int) := of_decide_eq_true zq5
           have q104 : x7_3 < (l0_2.length : Int) := of_decide_eq_true zq5
           obtain ⟨ad104, A104_1, c104_1, e104, hx104_0, hx104_1, hl104_1, hi104_1⟩ := at_T56 HR0_2.out x7_3 p104 q104
           obtain rfl : ad103 = ad104 := (by injection e104)
           replace hx104_0 := hcx HB.out hx104_0
           replace hx104_1 := hcx HB.out hx104_1
           have HR104_1 := Aside0.mk hi104_1
           have HC104_1 := Aside0.mk hl104_1
           clear hi104_1 hl104_1
           replace p104 := eq_true p104
           replace q104 := eq_true q104
           have ea_ := Option.some.inj (hx103_1.symm.trans hx104_1)
           injection ea_ with ea_ en_ ec_
           subst ea_
           subst ec_
           clear en_
           go_wp2
           repeat (go_quiet (fail); try go_wp2)
           go_roundg k3
           case measure => have := HJ2.out; have := HK2.out; have := HK3.out; omega
           case rel => exact ⟨(wrap64 ((wrap64 (x5_3 + (((rd_T56 l0_2 x7_3).f0).size : Int))) + (((rd_T56 l0_2 x7_3).f1).length : Int))), (wrap64 (x7_3 + 1)), zq20, zq20, H', ⟨by have := HJ2.out; have := HK2.out; have := HK3.out; omega⟩, ⟨(zq0 BK101.out)⟩, ⟨zq11⟩⟩
          ·rw [if_neg c20] at H
           exact absurd H zq51
         ·rw [if_neg c19] at H
          have c19b0 : decide (x7_3 < (l0_2.length : Int)) = false := decide_eq_false c19
          clear c19
          obtain rfl := Option.some.inj H
          obtain ⟨hcz22_0, hcz22_1, hcz22_2, hfz22_0, hfz22_1, hfz22_2⟩ := bcs3 BK101.out
          go_wp2
          repeat (go_quiet (fail); try go_wp2)
          go_ret
          exact ⟨zq9, zq11⟩
end Go.Proofs.Ytbpebehbfpgjbaa.P
end
section
namespace Go.Proofs.Ytbpebehbfpgjbaa.P
open Go.RowKit Go.Proofs.YtbpebehbfpgjbaaW.PrintWords Go.Proofs.YtbpebehbfpgjbaaW.PrintLast Go.Proofs.YtbpebehbfpgjbaaW.PrintMore
set_option linter.unusedVariables false
set_option linter.unusedSimpArgs false
open GM
theorem R_keep3' {α : Type} {d : Kd α} {e base : Nat} {Q : Nat → Prop} {W w1 : World} {v v1 u : Value} {xs : List α} (h : d.R e W base (fun k => Q k ∧ some k ≠ v.ownBlock) u xs) (hg : W.grownBy w1 v.ownBlock) (hat : v1.ownBlock = v.ownBlock ∨ ∃ b, v1.ownBlock = some b ∧ W.heap.size ≤ b) : d.R e w1 base (fun k => Q k ∧ some k ≠ v1.ownBlock) u xs :=
 Kd.R_mono (R_keep3 (Kd.R_mono h (fun k hk => And.intro hk.2 hk.1)) hg hat) (fun k hk => ⟨hk.2, hk.1⟩)
theorem lotsP_range {every : Int} {fl : List S58} {st : List S56} {l : List S45} (h : Valid every fl st l) : ∀ i n, n ∈ lotsP l i → 0 ≤ n ∧ n ≤ 1000000
 | 0, n, hn => by simp [lotsP] at hn
 | i + 1, n, hn => by
  unfold lotsP at hn
  split at hn
  ·rename_i hk
   rcases (mem_putS _ _ _).1 hn with rfl | hn
   ·refine h.lot i ?_
    unfold keptB at hk
    simp only [Bool.and_eq_true, beq_iff_eq] at hk
    exact hk.1
   ·exact lotsP_range h i n hn
  ·exact lotsP_range h i n hn
theorem take_filter (p : Int → Bool) (l : List Int) (i : Nat) (h : i < l.length) : (l.take (i + 1)).filter p = if p (rd l i) = true then (l.take i).filter p ++ [rd l i] else (l.take i).filter p := by
 have hr : rd l (i : Int) = l[i] := by simp [rd, h]
 rw [List.take_succ_eq_append_getElem h, List.filter_append, hr]
 by_cases hp : p l[i] = true <;> simp [hp]
set_option maxHeartbeats 8000000 in
set_option maxRecDepth 100000 in
theorem inspect_Lots.calls (a0_0 : Int) (A0_1 : Option Addr) (c0_1 : Nat) (l0_1 : List S58) (A0_2 : Option Addr) (c0_2 : Nat) (l0_2 : List S56) (A1 : Option Addr) (c1 : Nat) (l1 : List S45) (r1 r2 r3 : List Int) (r4 : Int) (w : World)
  (hr0_1 : Kd.C k58 w A0_1 l0_1.length l0_1) (hc0_1 : l0_1.length ≤ c0_1) (hr0_2 : Kd.C k56 w A0_2 l0_2.length l0_2) (hc0_2 : l0_2.length ≤ c0_2) (hr1 : Kd.C k45 w A1 l1.length l1) (hc1 : l1.length ≤ c1) (h : inspect_Lots.f a0_0 l0_1 l0_2 l1 = some (r1, r2, r3, r4)) :
  Calls Try.prog 17 #[.agg #[.int .i64 a0_0, .slice A0_1 l0_1.length c0_1, .slice A0_2 l0_2.length c0_2], .slice A1 l1.length c1] w fun e w' =>
   ∃ v0_ v1_ v2_ : Value, e = .returned (.tuple #[v0_, v1_, v2_, .int .i64 r4]) ∧ Kd.R (Kd.int .i64) 3 w' w.heap.size (fun k_ => some k_ ≠ (v1_ : Value).ownBlock ∧ some k_ ≠ (v2_ : Value).ownBlock) v0_ r1 ∧ Kd.R (Kd.int .i64) 3 w' w.heap.size (fun k_ => some k_ ≠ (v0_ : Value).ownBlock ∧ some k_ ≠ (v2_ : Value).ownBlock) v1_ r2 ∧ Kd.R (Kd.int .i64) 3 w' w.heap.size (fun k_ => some k_ ≠ (v0_ : Value).ownBlock ∧ some k_ ≠ (v1_ : Value).ownBlock) v2_ r3 ∧ Below w.heap.size w w' := by
 have hj : lotsF a0_0 l0_1 l0_2 l1 = (r1, r2, r3, r4) := Option.some.inj h
 clear h
 have hb1 := (Below.refl w.heap.size w).alloc (Nat.le_refl _) (.cells #[.int .i64 a0_0, .slice A0_1 l0_1.length c0_1, .slice A0_2 l0_2.length c0_2] 25)
 have hlog := checklog_plain a0_0 A0_1 c0_1 l0_1 A0_2 c0_2 l0_2 A1 c1 l1 w hr0_1 hc0_1 hr0_2 hc0_2 hr1 hc1 _ hb1
 have HB1 := Aside0.mk hb1
 have HC1 := Aside0.mk (blk_new w (.cells #[.int .i64 a0_0, .slice A0_1 l0_1.length c0_1, .slice A0_2 l0_2.length c0_2] 25))
 clear hb1
 unfold lotsF at hj
 by_cases h0 : logS a0_0 l0_1 l0_2 l1 = 0
 ·rw [if_neg (fun hh => hh h0)] at hj
  obtain ⟨e1, e2, e3, rfl⟩ : (lotsP l1 l1.length).filter (fun m => lotState a0_0 l0_1 l0_2 l1 m == 2) = r1 ∧ (lotsP l1 l1.length).filter (fun m => lotState a0_0 l0_1 l0_2 l1 m == 3) = r2 ∧ (lotsP l1 l1.length).filter (fun m => !(lotState a0_0 l0_1 l0_2 l1 m == 2) && !(lotState a0_0 l0_1 l0_2 l1 m == 3)) = r3 ∧ 0 = r4 := by simpa only [Prod.mk.injEq] using hj
  have HE := Aside0.mk (And.intro e1 (And.intro e2 e3))
  have hv := logS_valid h0
  have hlots := fun (W : World) (hW : Below w.heap.size w W) => inspect_lots.calls a0_0 A0_1 c0_1 l0_1 A0_2 c0_2 l0_2 A1 c1 l1 W (Kd.C_below hr0_1 hW) hc0_1 (Kd.C_below hr0_2 hW) hc0_2 (Kd.C_below hr1 hW) hv
  rw [h0] at hlog
  have HNL := Aside0.mk (show (lotsP l1 l1.length).length ≤ 512 from Nat.le_trans (lotsP_len l1 _) hv.len)
  have HLEN := Aside0.mk hv.len
  have HV := Aside0.mk hv
  clear hr0_1 hr0_2 hr1 hv h0 hj e1 e2 e3
  go_enter Try.func17, Try.ntmps17
  go_wp2_with (first
   | (go_at_call 19; (with_reducible refine hlog.mono ?_); rintro e w1 ⟨rfl, hb⟩; have HB2 := Aside0.mk (below_step HB1.out hb); have HC2 := Aside0.mk (blk_below HC1.out hb); have hc00 : w1.cell? ⟨w.heap.size, 0, none⟩ = some (.int .i64 a0_0) := (blk_cell HC2.out 0).trans rfl; have hc01 : w1.cell? ⟨w.heap.size, 1, none⟩ = some (.slice A0_1 l0_1.length c0_1) := (blk_cell HC2.out 1).trans rfl; have hc02 : w1.cell? ⟨w.heap.size, 2, none⟩ = some (.slice A0_2 l0_2.length c0_2) := (blk_cell HC2.out 2).trans rfl; clear hb)
   | (go_at_call 43; (with_reducible refine (hlots _ HB2.out).mono ?_); rintro e w3 ⟨mv, base, rfl, hm, hb⟩; obtain ⟨mr, hmr⟩ : ∃ r, mv = .map r := hm.elim (fun h => ⟨none, h.1⟩) (fun ⟨b, h, _⟩ => ⟨some b, h⟩); subst hmr; have HB3 := Aside0.mk ((below_step HB2.out hb).alloc (below_step HB2.out hb).size (.cells #[.map mr] 90)); have HSH := Aside0.mk (blk_new w3 (.cells #[.map mr] 90)); have HM := Aside0.mk (show Value.map mr = .map none ∧ shelfP a0_0 l0_1 l0_2 l1 l1.length = (fun _ => []) ∨ ∃ b, Value.map mr = .map (some b) ∧ Groups Try.prog 3 46 .u8 (w3.alloc (.cells #[.map mr] 90)) base b (shelfP a0_0 l0_1 l0_2 l1 l1.length) from hm.imp id (fun ⟨b, h1, h2⟩ => ⟨b, h1, h2.below ((Below.refl _ w3).alloc (Nat.le_refl _) _)⟩)); clear hb hm)
   | (go_at_call 44; (with_reducible refine (inspect_numbers.calls w3.heap.size (.map mr) base _ (lotsP l1 l1.length) _ HSH.out HM.out HNL.out (fun key hk => (shelfP_key a0_0 l0_1 l0_2 l1 key _).1 hk)).mono ?_); rintro e wn ⟨vn, zn, rfl, ho, hzl, hzs, hzm, hb⟩; have HZ := Aside0.mk (sorted_ext hzs (lotsP_sorted l1 l1.length) (fun x => (hzm x).trans ((shelfP_key a0_0 l0_1 l0_2 l1 (.int .i64 x) _).trans ⟨fun ⟨m, h1, h2⟩ => by cases h2; exact h1, fun h1 => ⟨x, h1, rfl⟩⟩))); have HO0 := Aside0.mk ho; have HBN := Aside0.mk (below_step HB3.out hb); have HSN := Aside0.mk (blk_below HSH.out hb); have HMN := Aside0.mk (show Value.map mr = .map none ∧ shelfP a0_0 l0_1 l0_2 l1 l1.length = (fun _ => []) ∨ ∃ b, Value.map mr = .map (some b) ∧ Groups Try.prog 3 46 .u8 wn base b (shelfP a0_0 l0_1 l0_2 l1 l1.length) from HM.out.imp id (fun ⟨b, h1, h2⟩ => ⟨b, h1, h2.below hb⟩)); clear ho hzl hzs hzm hb; obtain ⟨An, cn, he, _, hCn⟩ := Kd.R_reads (Kd.R_of_own (h1 := fun _ => rfl) (ok := fun _ => True) HO0.out (fun _ _ => trivial)); subst he; have HCN := Aside0.mk (show Kd.C (Kd.int .i64) wn An zn.length zn from hCn); clear hCn))
  have hz := HZ.out
  subst hz
  clear HZ hc00 hc01 hc02
  go_loopg [4, 5, 6, 23] (lotsP l1 l1.length).length (fun gg s4 s5 s6 s23 wr => ∃ (i : Nat) (v4 v5 v6 : Value), s23 = .int .i64 (i : Int) ∧ v4 = s4 ∧ v5 = s5 ∧ v6 = s6 ∧ Aside0 (i ≤ (lotsP l1 l1.length).length ∧ (lotsP l1 l1.length).length - i ≤ gg) ∧ Aside0 (Below wn.heap.size wn wr) ∧ Aside0 (Kd.R (Kd.int .i64) 3 wr wn.heap.size (fun k_ => some k_ ≠ (v5 : Value).ownBlock ∧ some k_ ≠ (v6 : Value).ownBlock) v4 (((lotsP l1 l1.length).take i).filter (fun m => lotState a0_0 l0_1 l0_2 l1 m == 2))) ∧ Aside0 (Kd.R (Kd.int .i64) 3 wr wn.heap.size (fun k_ => some k_ ≠ (v4 : Value).ownBlock ∧ some k_ ≠ (v6 : Value).ownBlock) v5 (((lotsP l1 l1.length).take i).filter (fun m => lotState a0_0 l0_1 l0_2 l1 m == 3))) ∧ Aside0 (Kd.R (Kd.int .i64) 3 wr wn.heap.size (fun k_ => some k_ ≠ (v4 : Value).ownBlock ∧ some k_ ≠ (v5 : Value).ownBlock) v6 (((lotsP l1 l1.length).take i).filter (fun m => !(lotState a0_0 l0_1 l0_2 l1 m == 2) && !(lotState a0_0 l0_1 l0_2 l1 m == 3)))))
  case atStart => exact ⟨0, _, _, _, rfl, rfl, rfl, rfl, ⟨zq18, zq18⟩, ⟨Below.refl _ _⟩, ⟨Kd.R_nil _ _ _ _ _⟩, ⟨Kd.R_nil _ _ _ _ _⟩, ⟨Kd.R_nil _ _ _ _ _⟩⟩
  case round =>
   obtain ⟨i, v4, v5, v6, rfl, rfl, rfl, rfl, hi, HB, H4, H5, H6⟩ := hrel
   by_cases hlt : i < (lotsP l1 l1.length).length
   ·have hlt' : (i : Int) < ((lotsP l1 l1.length).length : Int) := by omega
    have hb0 : decide (i < (lotsP l1 l1.length).length) = true := decide_eq_true hlt
    have hq0 : 0 ≤ (i : Int) := by omega
    have hq1 : (i : Int) ≤ 511 := by have := HNL.out; omega
    obtain ⟨ad, cs, rfl, _, hK, hc0⟩ := Kd.C_get (Kd.C_below HCN.out HB.out) (0 : Int) (i : Int) hq0 hlt'
    obtain rfl : cs = [.int .i64 ((lotsP l1 l1.length).getD (i : Int).toNat 0)] := hK
    have hx := hc0 0 _ rfl
    have hgd : (lotsP l1 l1.length).getD (i : Int).toNat 0 = rd (lotsP l1 l1.length) (i : Int) := rfl
    rw [hgd] at hx
    simp only [show (Kd.int .i64).sz = 1 from rfl, Nat.mul_one, Nat.add_zero, Int.toNat_natCast] at hx
    clear hc0 hgd
    have t2 := take_filter (fun m => lotState a0_0 l0_1 l0_2 l1 m == 2) (lotsP l1 l1.length) i hlt
    have t3 := take_filter (fun m => lotState a0_0 l0_1 l0_2 l1 m == 3) (lotsP l1 l1.length) i hlt
    have t6 := take_filter (fun m => !(lotState a0_0 l0_1 l0_2 l1 m == 2) && !(lotState a0_0 l0_1 l0_2 l1 m == 3)) (lotsP l1 l1.length) i hlt
    have hmem : rd (lotsP l1 l1.length) (i : Int) ∈ (lotsP l1 l1.length) := by simp [rd, hlt]
    generalize rd (lotsP l1 l1.length) (i : Int) = n at hx t2 t3 t6 hmem
    have hne := (shelfP_key a0_0 l0_1 l0_2 l1 (.int .i64 n) l1.length).2 ⟨n, hmem, rfl⟩
    have hrg := lotsP_range HV.out l1.length n hmem
    rcases HMN.out with ⟨_, hf⟩ | ⟨b, hbm, hG⟩
    ·rw [hf] at hne
     exact absurd rfl hne
    ·cases hbm
     obtain ⟨v0, hlook, hown⟩ := hG.lookup keyed3 Try.underlying88 zero74 (key3 n (small_wf n zq18 zq18))
     have hl0 := hlook wr (HB.out.block b hG.lt)
     obtain ⟨A0, c0, he, _, hC0⟩ := Kd.R_reads (Kd.R_of_own (h1 := fun _ => rfl) (ok := fun _ => True) hown (fun _ _ => trivial))
     subst he
     have hst := inspect_state.calls A0 c0 (shelfP a0_0 l0_1 l0_2 l1 l1.length (.int .i64 n)) wr (Kd.C_below hC0 HB.out) (Nat.le_trans (shelfP_len a0_0 l0_1 l0_2 l1 _ _) HLEN.out)
     have hls : stateS (shelfP a0_0 l0_1 l0_2 l1 l1.length (.int .i64 n)) = lotState a0_0 l0_1 l0_2 l1 n := rfl
     rw [hls] at hst
     have hsc := (blk_cell (blk_below HSN.out HB.out) 0).trans (rfl : _ = some (Value.map (some b)))
     have HLT := Aside0.mk (show i < 512 by have := HNL.out; omega)
     have L4 := Aside0.mk (show ((lotsP l1 l1.length).take i |>.filter (fun m => lotState a0_0 l0_1 l0_2 l1 m == 2)).length ≤ 512 from Nat.le_trans (List.length_filter_le _ _) (by rw [List.length_take]; have := HNL.out; omega))
     have L5 := Aside0.mk (show ((lotsP l1 l1.length).take i |>.filter (fun m => lotState a0_0 l0_1 l0_2 l1 m == 3)).length ≤ 512 from Nat.le_trans (List.length_filter_le _ _) (by rw [List.length_take]; have := HNL.out; omega))
     have L6 := Aside0.mk (show ((lotsP l1 l1.length).take i |>.filter (fun m => !(lotState a0_0 l0_1 l0_2 l1 m == 2) && !(lotState a0_0 l0_1 l0_2 l1 m == 3))).length ≤ 512 from Nat.le_trans (List.length_filter_le _ _) (by rw [List.length_take]; have := HNL.out; omega))
     generalize lotState a0_0 l0_1 l0_2 l1 n = t at hst t2 t3 t6
     have T2 := Aside0.mk t2
     have T3 := Aside0.mk t3
     have T6 := Aside0.mk t6
     clear t2 t3 t6 hlook hown hC0 hne hrg hmem hls hG
     by_cases h2 : t = 2
     ·subst h2
      go_wp2_with (first | (go_at_call 45; (with_reducible refine hst.mono ?_); rintro e ws ⟨rfl, hws⟩; replace hws := hws.symm; subst hws) | ((with_reducible refine gate_dst (N := 41) rfl ?_); go_must (refine Kd.R_append (Kd.int .i64) (w0 := wn) (W := wr) wn.heap.size rfl (.tmp 38) (.tmp 40) 29 3 (.int .i64 0) 8 rfl Try.underlying29 info3 rfl zq50 zq18 v4 (((lotsP l1 l1.length).take i).filter (fun m => lotState a0_0 l0_1 l0_2 l1 m == 2)) n [.int .i64 n] (fun k_ => some k_ ≠ (v5 : Value).ownBlock ∧ some k_ ≠ (v6 : Value).ownBlock) (fun _ => False) rfl rfl rfl (fun _ hk => hk.elim) ?aF H4.out HB.out HB.out.size ?aL ?_); (case aL => have := L4.out; omega); (case aF => exact fun k hk => ⟨fun e => by obtain ⟨_, ho⟩ := Kd.R_own H5.out; have := own_lt ho k e.symm; omega, fun e => by obtain ⟨_, ho⟩ := Kd.R_own H6.out; have := own_lt ho k e.symm; omega⟩); intro v1 wc ho hb hg hat; have HX := Aside0.mk ho; have HBc := Aside0.mk hb; have HY := Aside0.mk (R_keep3 H5.out hg hat); have HZ := Aside0.mk (R_keep3 H6.out hg hat); clear ho hb hg hat))
      go_roundg ((lotsP l1 l1.length).length - (i + 1))
      case measure => have := hi.out; omega
      case rel => exact ⟨i + 1, v1, v5, v6, zq54, rfl, rfl, rfl, ⟨zq18⟩, HBc, ⟨by rw [T2.out]; exact HX.out⟩, ⟨by rw [T3.out]; exact HY.out⟩, ⟨by rw [T6.out]; exact HZ.out⟩⟩
     ·by_cases h3 : t = 3
      ·subst h3
       clear h2
       go_wp2_with (first | (go_at_call 45; (with_reducible refine hst.mono ?_); rintro e ws ⟨rfl, hws⟩; replace hws := hws.symm; subst hws) | ((with_reducible refine gate_dst (N := 47) rfl ?_); go_must (refine Kd.R_append (Kd.int .i64) (w0 := wn) (W := wr) wn.heap.size rfl (.tmp 44) (.tmp 46) 29 3 (.int .i64 0) 8 rfl Try.underlying29 info3 rfl zq50 zq18 v5 (((lotsP l1 l1.length).take i).filter (fun m => lotState a0_0 l0_1 l0_2 l1 m == 3)) n [.int .i64 n] (fun k_ => some k_ ≠ (v4 : Value).ownBlock ∧ some k_ ≠ (v6 : Value).ownBlock) (fun _ => False) rfl rfl rfl (fun _ hk => hk.elim) ?aF H5.out HB.out HB.out.size ?aL ?_); (case aL => have := L5.out; omega); (case aF => exact fun k hk => ⟨fun e => by obtain ⟨_, ho⟩ := Kd.R_own H4.out; have := own_lt ho k e.symm; omega, fun e => by obtain ⟨_, ho⟩ := Kd.R_own H6.out; have := own_lt ho k e.symm; omega⟩); intro v1 wc ho hb hg hat; have HX := Aside0.mk ho; have HBc := Aside0.mk hb; have HY := Aside0.mk (R_keep3 H4.out hg hat); have HZ := Aside0.mk (R_keep3' H6.out hg hat); clear ho hb hg hat))
       go_roundg ((lotsP l1 l1.length).length - (i + 1))
       case measure => have := hi.out; omega
       case rel => exact ⟨i + 1, v4, v1, v6, zq54, rfl, rfl, rfl, ⟨zq18⟩, HBc, ⟨by rw [T2.out]; exact HY.out⟩, ⟨by rw [T3.out]; exact HX.out⟩, ⟨by rw [T6.out]; exact HZ.out⟩⟩
      ·have hb2 : (t == 2) = false := by simpa using h2
       have hb3 : (t == 3) = false := by simpa using h3
       rw [hb2, hb3] at T6
       rw [hb2] at T2
       rw [hb3] at T3
       clear h2 h3
       go_wp2_with (first | (go_at_call 45; (with_reducible refine hst.mono ?_); rintro e ws ⟨rfl, hws⟩; replace hws := hws.symm; subst hws) | ((with_reducible refine gate_dst (N := 35) rfl ?_); go_must (refine Kd.R_append (Kd.int .i64) (w0 := wn) (W := wr) wn.heap.size rfl (.tmp 32) (.tmp 34) 29 3 (.int .i64 0) 8 rfl Try.underlying29 info3 rfl zq50 zq18 v6 (((lotsP l1 l1.length).take i).filter (fun m => !(lotState a0_0 l0_1 l0_2 l1 m == 2) && !(lotState a0_0 l0_1 l0_2 l1 m == 3))) n [.int .i64 n] (fun k_ => some k_ ≠ (v4 : Value).ownBlock ∧ some k_ ≠ (v5 : Value).ownBlock) (fun _ => False) rfl rfl rfl (fun _ hk => hk.elim) ?aF H6.out HB.out HB.out.size ?aL ?_); (case aL => have := L6.out; omega); (case aF => exact fun k hk => ⟨fun e => by obtain ⟨_, ho⟩ := Kd.R_own H4.out; have := own_lt ho k e.symm; omega, fun e => by obtain ⟨_, ho⟩ := Kd.R_own H5.out; have := own_lt ho k e.symm; omega⟩); intro v1 wc ho hb hg hat; have HX := Aside0.mk ho; have HBc := Aside0.mk hb; have HY := Aside0.mk (R_keep3' H4.out hg hat); have HZ := Aside0.mk (R_keep3' H5.out hg hat); clear ho hb hg hat))
       go_roundg ((lotsP l1 l1.length).length - (i + 1))
       case measure => have := hi.out; omega
       case rel => exact ⟨i + 1, v4, v5, v1, zq54, rfl, rfl, rfl, ⟨zq18⟩, HBc, ⟨by rw [T2.out]; exact HY.out⟩, ⟨by rw [T3.out]; exact HZ.out⟩, ⟨by rw [T6.out]; exact HX.out⟩⟩
   ·have hlen : i = (lotsP l1 l1.length).length := by have := hi.out; omega
    have hb0 : decide (i < (lotsP l1 l1.length).length) = false := decide_eq_false hlt
    have HLN := Aside0.mk hlen
    clear hlen
    go_wp2
    refine bodyPost_ret (results_list (rs := [.tmp 4, .tmp 5, .tmp 6, .tmp 7]) rfl zq51 (.tmp (.tmp (.tmp (.tmp .nil))))) rfl ?_
    have hsz : w.heap.size ≤ wn.heap.size := HBN.out.size
    have q4 := H4.out
    have q5 := H5.out
    have q6 := H6.out
    rw [HLN.out, List.take_length] at q4 q5 q6
    rw [HE.out.1] at q4
    rw [HE.out.2.1] at q5
    rw [HE.out.2.2] at q6
    exact ⟨_, _, _, rfl, Kd.R_lower q4 hsz, Kd.R_lower q5 hsz, Kd.R_lower q6 hsz, HBN.out.trans (HB.out.mono hsz)⟩
 ·rw [if_pos h0] at hj
  obtain ⟨rfl, rfl, rfl, h3⟩ : [] = r1 ∧ [] = r2 ∧ [] = r3 ∧ logS a0_0 l0_1 l0_2 l1 = r4 := by simpa using hj
  rw [h3] at hlog h0
  have hb0 : (r4 == 0) = false := by simpa using h0
  clear hj h3 h0
  go_enter Try.func17, Try.ntmps17
  go_wp2_with (go_at_call 19; (with_reducible refine hlog.mono ?_); rintro e w1 ⟨rfl, hb⟩; have HB2 := Aside0.mk (below_step HB1.out hb); clear hb)
  refine bodyPost_ret (results_list (rs := [.tmp 4, .tmp 5, .tmp 6, .tmp 7]) rfl zq51 (.tmp (.tmp (.tmp (.tmp .nil))))) rfl ?_
  exact ⟨_, _, _, rfl, Kd.R_nil _ _ _ _ _, Kd.R_nil _ _ _ _ _, Kd.R_nil _ _ _ _ _, HB2.out⟩
end Go.Proofs.Ytbpebehbfpgjbaa.P
end
