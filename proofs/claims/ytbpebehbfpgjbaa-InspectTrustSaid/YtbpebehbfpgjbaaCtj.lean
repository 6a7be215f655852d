/- Texts of the proof, joined: what they prove stands at each theorem. -/
import Derived.Test.YtbpebehbfpgjbaaCtb
import Derived.Test.YtbpebehbfpgjbaaCte
import Derived.Test.YtbpebehbfpgjbaaCtf
import Derived.Test.YtbpebehbfpgjbaaCti
section
namespace Go.Proofs.Ytbpebehbfpgjbaa.P
open Go.RowKit Go.Proofs.YtbpebehbfpgjbaaW.PrintWords Go.Proofs.YtbpebehbfpgjbaaW.PrintLast Go.Proofs.YtbpebehbfpgjbaaW.PrintMore
set_option linter.unusedVariables false
set_option linter.unusedSimpArgs false
open GM
def judgeF (a0_0 : Int) (l0_1 : List S58) (l0_2 : List S56) (l1 : List S45) (a2 : Int) : Int × Int × Int :=
 if logS a0_0 l0_1 l0_2 l1 ≠ 0 then (0, 0, logS a0_0 l0_1 l0_2 l1) else if win a2 0 ((l1.length : Int) - 1) = false then (0, 0, 7) else if (rd_T45 l1 a2).f1 ≠ 1 then (0, 0, 1) else
 ((judgeS a0_0 l0_1 l0_2 l1 a2).1, (judgeS a0_0 l0_1 l0_2 l1 a2).2, 0)
def inspect_Judge.f (a0_0 : Int) (l0_1 : List S58) (l0_2 : List S56) (l1 : List S45) (a2 : Int) : Option (Int × Int × Int) := some (judgeF a0_0 l0_1 l0_2 l1 a2)
theorem within_plain (a b c : Int) (W : World) : Calls Try.prog 36 #[.int .i64 a, .int .i64 b, .int .i64 c] W fun e w' => e = .returned (.bool (win a b c)) ∧ ∃ nd, w' = W.drewN nd :=
 (inspect_within.calls a b c (win a b c) W (within_eq a b c)).mono (by rintro e w' ⟨rfl, ⟨nd, rfl⟩⟩; exact ⟨rfl, nd, rfl⟩)
theorem opn_class (v k : Int) (h : (v = 1 ∨ v = 2) ∧ k = -1 ∨ v = 0 ∨ v = 3) :
  ∃ t x f y, opn v k = .iface t x ∧ (∀ w : World, (method 279 t x "cullet/inspect.class").run Try.prog w = .ok (f, y) w) ∧ (∀ w : World, (callFunc f #[y]).run Try.prog w = .ok (.enter f #[y]) w) ∧ ∀ w, Calls Try.prog f #[y] w fun e w' => e = .returned (.int .i64 k) ∧ Below w.heap.size w w' := by
 rcases h with ⟨rfl | rfl, rfl⟩ | rfl | rfl
 ·exact ⟨128, .agg #[], 122, .agg #[], rfl, fun w => by kernel_rfl, fun w => by kernel_rfl, class128 0⟩
 ·exact ⟨129, .agg #[], 123, .agg #[], rfl, fun w => by kernel_rfl, fun w => by kernel_rfl, class129 0⟩
 ·exact ⟨132, .agg #[.int .i64 k], 125, .agg #[.int .i64 k], rfl, fun w => by kernel_rfl, fun w => by kernel_rfl, class132 k⟩
 ·exact ⟨131, .agg #[.int .i64 k], 124, .agg #[.int .i64 k], rfl, fun w => by kernel_rfl, fun w => by kernel_rfl, class131 k⟩
set_option maxHeartbeats 4000000 in
set_option maxRecDepth 100000 in
theorem inspect_Judge.calls (a0_0 : Int) (A0_1 : Option Addr) (c0_1 : Nat) (l0_1 : List S58) (A0_2 : Option Addr) (c0_2 : Nat) (l0_2 : List S56) (A1 : Option Addr) (c1 : Nat) (l1 : List S45) (a2 : Int) (r1 r2 r3 : Int) (w : World)
  (hr0_1 : Kd.C k58 w A0_1 l0_1.length l0_1) (hc0_1 : l0_1.length ≤ c0_1) (hr0_2 : Kd.C k56 w A0_2 l0_2.length l0_2) (hc0_2 : l0_2.length ≤ c0_2) (hr1 : Kd.C k45 w A1 l1.length l1) (hc1 : l1.length ≤ c1) (h : inspect_Judge.f a0_0 l0_1 l0_2 l1 a2 = some (r1, r2, r3)) :
  Calls Try.prog 21 #[.agg #[.int .i64 a0_0, .slice A0_1 l0_1.length c0_1, .slice A0_2 l0_2.length c0_2], .slice A1 l1.length c1, .int .i64 a2] w fun e w' =>
   e = .returned (.tuple #[.int .u8 r1, .int .i64 r2, .int .i64 r3]) ∧ Below w.heap.size w w' := by
 have hj : judgeF a0_0 l0_1 l0_2 l1 a2 = (r1, r2, r3) := Option.some.inj h
 clear h
 have hb1 := (Below.refl w.heap.size w).alloc (Nat.le_refl _) (.cells #[.int .i64 a0_0, .slice A0_1 l0_1.length c0_1, .slice A0_2 l0_2.length c0_2] 25)
 have hlog := checklog_plain a0_0 A0_1 c0_1 l0_1 A0_2 c0_2 l0_2 A1 c1 l1 w hr0_1 hc0_1 hr0_2 hc0_2 hr1 hc1 _ hb1
 have HB1 := Aside0.mk hb1
 have HC1 := Aside0.mk (blk_new w (.cells #[.int .i64 a0_0, .slice A0_1 l0_1.length c0_1, .slice A0_2 l0_2.length c0_2] 25))
 clear hb1
 unfold judgeF at hj
 by_cases h0 : logS a0_0 l0_1 l0_2 l1 = 0
 ·rw [if_neg (fun hh => hh h0)] at hj
  have hv := logS_valid h0
  have hop := opened_valid a0_0 A0_1 c0_1 l0_1 A0_2 c0_2 l0_2 A1 c1 l1 w hr0_1 hc0_1 hr0_2 hc0_2 hr1 hv
  rw [h0] at hlog
  have HLEN := Aside0.mk hv.len
  have HR1 := Aside0.mk hr1
  have hwp : wrap64 ((l1.length : Int) - 1) = (l1.length : Int) - 1 := wpred _ (by have := hv.len; omega)
  clear hr0_1 hr0_2 hr1 hv h0
  have hwn := within_plain a2 0 ((l1.length : Int) - 1)
  cases hw : win a2 0 ((l1.length : Int) - 1)
  ·rw [if_pos hw] at hj
   obtain ⟨rfl, rfl, rfl⟩ : 0 = r1 ∧ 0 = r2 ∧ 7 = r3 := by simpa using hj
   rw [hw] at hwn
   go_enter Try.func21, Try.ntmps21
   go_wp2_with (first
    | (go_at_call 19; (with_reducible refine hlog.mono ?_); rintro e w1 ⟨rfl, hb⟩; have HB2 := Aside0.mk (below_step HB1.out hb); clear hb)
    | (go_at_call 36; (with_reducible refine (hwn _).mono ?_); rintro e w2 ⟨rfl, nd, rfl⟩))
   go_ret3
   exact ⟨rfl, pw_below_drewN HB2.out _⟩
  ·rw [if_neg (by rw [hw]; decide)] at hj
   rw [hw] at hwn
   have hwt := win_true hw
   obtain ⟨ad, e, hx0, hx1, hx2, hx3, hx4, hx5, hx6⟩ := at_T45 HR1.out a2 hwt.1 zq17
   cases e
   have HX := Aside0.mk hx1
   clear hx0 hx1 hx2 hx3 hx4 hx5 hx6
   have g0 := eq_true hwt.1
   have g1 : a2 < (l1.length : Int) := by omega
   by_cases hk : (rd_T45 l1 a2).f1 = 1
   ·rw [if_neg (fun hh => hh hk)] at hj
    obtain ⟨h1, h2, rfl⟩ : (judgeS a0_0 l0_1 l0_2 l1 a2).1 = r1 ∧ (judgeS a0_0 l0_1 l0_2 l1 a2).2 = r2 ∧ 0 = r3 := by simpa using hj
    rw [hk] at HX
    have hjud := fun b W (hD : Desk W A0_1 c0_1 l0_1 A0_2 c0_2 l0_2 (some ad) c1 l1 b) => inspect_judged.calls a0_0 A0_1 c0_1 l0_1 A0_2 c0_2 l0_2 (some ad) c1 l1 b a2 W hD hwt.1 g1
    have hv4 := judgeS_v4 a0_0 l0_1 l0_2 l1 a2
    have hv3 := judgeS_v a0_0 l0_1 l0_2 l1 a2
    rw [h1, h2] at hjud hv3
    rw [h1] at hv4
    have hver := inspect_verdict.calls r1 r2
    have HV4 := Aside0.mk hv4
    obtain ⟨ti, xi, fi, yi, hop1, hme, hcf, hcl⟩ := opn_class r1 r2 hv3
    rw [hop1] at hjud hver
    clear hj h1 h2 hv4 hv3 hop1
    go_enter Try.func21, Try.ntmps21
    go_wp2_with (first
     | (go_at_call 19; (with_reducible refine hlog.mono ?_); rintro e w1 ⟨rfl, hb⟩; have HB2 := Aside0.mk (below_step HB1.out hb); have HC2 := Aside0.mk (blk_below HC1.out hb); have hx1 := (HB2.out.cell (World.block_lt_of_cell? w _ HX.out)).trans HX.out; have hc0 : ∀ n, (w1.drewN n).cell? ⟨w.heap.size, 0, none⟩ = some (.int .i64 a0_0) := fun n => (blk_cell HC2.out 0).trans rfl; have hc1' : ∀ n, (w1.drewN n).cell? ⟨w.heap.size, 1, none⟩ = some (.slice A0_1 l0_1.length c0_1) := fun n => (blk_cell HC2.out 1).trans rfl; have hc2 : ∀ n, (w1.drewN n).cell? ⟨w.heap.size, 2, none⟩ = some (.slice A0_2 l0_2.length c0_2) := fun n => (blk_cell HC2.out 2).trans rfl; clear hb)
     | (go_at_call 36; (with_reducible refine (hwn _).mono ?_); rintro e w2 ⟨rfl, nd, rfl⟩)
     | (go_at_call 32; (with_reducible refine (hop _ (pw_below_drewN HB2.out _)).mono ?_); rintro e w3 ⟨b, rfl, hD, hb⟩; have HB3 := Aside0.mk (below_step (pw_below_drewN HB2.out _) hb); have HDK := Aside0.mk hD; clear hb hD)
     | (go_at_call 50; (with_reducible refine (hjud _ _ HDK.out).mono ?_); rintro e w4 ⟨rfl, hb⟩; have HB4 := Aside0.mk (below_step HB3.out hb); clear hb)
     | (go_at_fn fi; (with_reducible refine (hcl _).mono ?_); rintro e w6 ⟨rfl, hb⟩; have HB6 := Aside0.mk (below_step HB4.out hb); clear hb)
     | (go_at_call 51; (with_reducible refine (hver _ HV4.out).mono ?_); rintro e w5 ⟨rfl, rfl⟩))
    go_ret3
    exact ⟨rfl, HB6.out⟩
   ·rw [if_pos hk] at hj
    obtain ⟨rfl, rfl, rfl⟩ : 0 = r1 ∧ 0 = r2 ∧ 1 = r3 := by simpa using hj
    have hkb : ((rd_T45 l1 a2).f1 == 1) = false := by simp [hk]
    go_enter Try.func21, Try.ntmps21
    go_wp2_with (first
     | (go_at_call 19; (with_reducible refine hlog.mono ?_); rintro e w1 ⟨rfl, hb⟩; have HB2 := Aside0.mk (below_step HB1.out hb); have hx1 := (HB2.out.cell (World.block_lt_of_cell? w _ HX.out)).trans HX.out; clear hb)
     | (go_at_call 36; (with_reducible refine (hwn _).mono ?_); rintro e w2 ⟨rfl, nd, rfl⟩))
    go_ret3
    exact ⟨rfl, pw_below_drewN HB2.out _⟩
 ·rw [if_pos h0] at hj
  obtain ⟨rfl, rfl, h3⟩ : 0 = r1 ∧ 0 = r2 ∧ logS a0_0 l0_1 l0_2 l1 = r3 := by simpa using hj
  rw [h3] at hlog h0
  have hb0 : (r3 == 0) = false := by simpa using h0
  clear hj h3 h0
  go_enter Try.func21, Try.ntmps21
  go_wp2_with (go_at_call 19; (with_reducible refine hlog.mono ?_); rintro e w1 ⟨rfl, hb⟩; have HB2 := Aside0.mk (below_step HB1.out hb); clear hb)
  go_ret3
  exact ⟨rfl, HB2.out⟩
def trustF (a0_0 : Int) (l0_1 : List S58) (l0_2 : List S56) (l1 : List S45) (a2 a3 a4 : Int) : Int × Int :=
 if logS a0_0 l0_1 l0_2 l1 ≠ 0 then (0, logS a0_0 l0_1 l0_2 l1) else if win a2 0 ((l0_2.length : Int) - 1) = false then (0, 7) else if win a3 0 ((l0_1.length : Int) - 1) = false then (0, 7) else if win a4 0 ((l1.length : Int) - 1) = false then (0, 7) else
 if (rd_T45 l1 a4).f1 ≠ 1 then (0, 1) else (trU a0_0 l0_2 l1 a2 a3 a4, 0)
def inspect_Trusted.f (a0_0 : Int) (l0_1 : List S58) (l0_2 : List S56) (l1 : List S45) (a2 a3 a4 : Int) : Option (Int × Int) := some (trustF a0_0 l0_1 l0_2 l1 a2 a3 a4)
set_option maxHeartbeats 4000000 in
set_option maxRecDepth 100000 in
theorem inspect_Trusted.calls (a0_0 : Int) (A0_1 : Option Addr) (c0_1 : Nat) (l0_1 : List S58) (A0_2 : Option Addr) (c0_2 : Nat) (l0_2 : List S56) (A1 : Option Addr) (c1 : Nat) (l1 : List S45) (a2 a3 a4 : Int) (r1 r2 : Int) (w : World)
  (hr0_1 : Kd.C k58 w A0_1 l0_1.length l0_1) (hc0_1 : l0_1.length ≤ c0_1) (hr0_2 : Kd.C k56 w A0_2 l0_2.length l0_2) (hc0_2 : l0_2.length ≤ c0_2) (hr1 : Kd.C k45 w A1 l1.length l1) (hc1 : l1.length ≤ c1) (h : inspect_Trusted.f a0_0 l0_1 l0_2 l1 a2 a3 a4 = some (r1, r2)) :
  Calls Try.prog 25 #[.agg #[.int .i64 a0_0, .slice A0_1 l0_1.length c0_1, .slice A0_2 l0_2.length c0_2], .slice A1 l1.length c1, .int .i64 a2, .int .i64 a3, .int .i64 a4] w fun e w' =>
   e = .returned (.tuple #[.int .u8 r1, .int .i64 r2]) ∧ Below w.heap.size w w' := by
 have hj : trustF a0_0 l0_1 l0_2 l1 a2 a3 a4 = (r1, r2) := Option.some.inj h
 clear h
 have hb1 := (Below.refl w.heap.size w).alloc (Nat.le_refl _) (.cells #[.int .i64 a0_0, .slice A0_1 l0_1.length c0_1, .slice A0_2 l0_2.length c0_2] 25)
 have hlog := checklog_plain a0_0 A0_1 c0_1 l0_1 A0_2 c0_2 l0_2 A1 c1 l1 w hr0_1 hc0_1 hr0_2 hc0_2 hr1 hc1 _ hb1
 have HB1 := Aside0.mk hb1
 have HC1 := Aside0.mk (blk_new w (.cells #[.int .i64 a0_0, .slice A0_1 l0_1.length c0_1, .slice A0_2 l0_2.length c0_2] 25))
 clear hb1
 unfold trustF at hj
 by_cases h0 : logS a0_0 l0_1 l0_2 l1 = 0
 ·rw [if_neg (fun hh => hh h0)] at hj
  have hv := logS_valid h0
  have hop := opened_valid a0_0 A0_1 c0_1 l0_1 A0_2 c0_2 l0_2 A1 c1 l1 w hr0_1 hc0_1 hr0_2 hc0_2 hr1 hv
  rw [h0] at hlog
  have HR1 := Aside0.mk hr1
  have hwp : wrap64 ((l1.length : Int) - 1) = (l1.length : Int) - 1 := wpred _ (by have := hv.len; omega)
  have hwp1 : wrap64 ((l0_1.length : Int) - 1) = (l0_1.length : Int) - 1 := wpred _ (by have := hv.n1; omega)
  have hwp2 : wrap64 ((l0_2.length : Int) - 1) = (l0_2.length : Int) - 1 := wpred _ (by have := hv.n2; omega)
  have HN1 := Aside0.mk hv.n1
  clear hr0_1 hr0_2 hr1 hv h0
  have hwn2 := within_plain a2 0 ((l0_2.length : Int) - 1)
  have hwn3 := within_plain a3 0 ((l0_1.length : Int) - 1)
  have hwn4 := within_plain a4 0 ((l1.length : Int) - 1)
  cases hw2 : win a2 0 ((l0_2.length : Int) - 1)
  ·rw [if_pos hw2] at hj
   obtain ⟨rfl, rfl⟩ : 0 = r1 ∧ 7 = r2 := by simpa using hj
   rw [hw2] at hwn2
   (go_enter Try.func25, Try.ntmps25; go_wp2_with (first | (go_at_call 19; (with_reducible refine hlog.mono ?_); rintro e w1 ⟨rfl, hb⟩; have HB2 := Aside0.mk (below_step HB1.out hb); have HC2 := Aside0.mk (blk_below HC1.out hb); (try have hx1 := (HB2.out.cell (World.block_lt_of_cell? w _ HX.out)).trans HX.out); have hc0 : ∀ n, (w1.drewN n).cell? ⟨w.heap.size, 0, none⟩ = some (.int .i64 a0_0) := fun n => (blk_cell HC2.out 0).trans rfl; have hc1' : ∀ n, (w1.drewN n).cell? ⟨w.heap.size, 1, none⟩ = some (.slice A0_1 l0_1.length c0_1) := fun n => (blk_cell HC2.out 1).trans rfl; have hc2 : ∀ n, (w1.drewN n).cell? ⟨w.heap.size, 2, none⟩ = some (.slice A0_2 l0_2.length c0_2) := fun n => (blk_cell HC2.out 2).trans rfl; have hc01 : w1.cell? ⟨w.heap.size, 1, none⟩ = some (.slice A0_1 l0_1.length c0_1) := (blk_cell HC2.out 1).trans rfl; have hc02 : w1.cell? ⟨w.heap.size, 2, none⟩ = some (.slice A0_2 l0_2.length c0_2) := (blk_cell HC2.out 2).trans rfl; clear hb) | (go_at_call 36; (with_reducible refine (hwn2 _).mono ?_); rintro e w2 ⟨rfl, nd, rfl⟩) | (go_at_call 36; (with_reducible refine (hwn3 _).mono ?_); rintro e w2 ⟨rfl, nd, rfl⟩) | (go_at_call 36; (with_reducible refine (hwn4 _).mono ?_); rintro e w2 ⟨rfl, nd, rfl⟩) | (go_at_call 32; (with_reducible refine (hop _ (pw_below_drewN HB2.out _)).mono ?_); rintro e w3 ⟨b, rfl, hD, hb⟩; have HB3 := Aside0.mk (below_step (pw_below_drewN HB2.out _) hb); have HDK := Aside0.mk hD; clear hb hD) | (go_at_call 37; (with_reducible refine (htr _ _ HDK.out).mono ?_); rintro e w4 ⟨rfl, hb⟩; have HB4 := Aside0.mk (below_step HB3.out hb); clear hb)); go_ret2; exact ⟨rfl, zq71⟩)
  ·rw [if_neg (by rw [hw2]; decide)] at hj
   rw [hw2] at hwn2
   cases hw3 : win a3 0 ((l0_1.length : Int) - 1)
   ·rw [if_pos hw3] at hj
    obtain ⟨rfl, rfl⟩ : 0 = r1 ∧ 7 = r2 := by simpa using hj
    rw [hw3] at hwn3
    (go_enter Try.func25, Try.ntmps25; go_wp2_with (first | (go_at_call 19; (with_reducible refine hlog.mono ?_); rintro e w1 ⟨rfl, hb⟩; have HB2 := Aside0.mk (below_step HB1.out hb); have HC2 := Aside0.mk (blk_below HC1.out hb); (try have hx1 := (HB2.out.cell (World.block_lt_of_cell? w _ HX.out)).trans HX.out); have hc0 : ∀ n, (w1.drewN n).cell? ⟨w.heap.size, 0, none⟩ = some (.int .i64 a0_0) := fun n => (blk_cell HC2.out 0).trans rfl; have hc1' : ∀ n, (w1.drewN n).cell? ⟨w.heap.size, 1, none⟩ = some (.slice A0_1 l0_1.length c0_1) := fun n => (blk_cell HC2.out 1).trans rfl; have hc2 : ∀ n, (w1.drewN n).cell? ⟨w.heap.size, 2, none⟩ = some (.slice A0_2 l0_2.length c0_2) := fun n => (blk_cell HC2.out 2).trans rfl; have hc01 : w1.cell? ⟨w.heap.size, 1, none⟩ = some (.slice A0_1 l0_1.length c0_1) := (blk_cell HC2.out 1).trans rfl; have hc02 : w1.cell? ⟨w.heap.size, 2, none⟩ = some (.slice A0_2 l0_2.length c0_2) := (blk_cell HC2.out 2).trans rfl; clear hb) | (go_at_call 36; (with_reducible refine (hwn2 _).mono ?_); rintro e w2 ⟨rfl, nd, rfl⟩) | (go_at_call 36; (with_reducible refine (hwn3 _).mono ?_); rintro e w2 ⟨rfl, nd, rfl⟩) | (go_at_call 36; (with_reducible refine (hwn4 _).mono ?_); rintro e w2 ⟨rfl, nd, rfl⟩) | (go_at_call 32; (with_reducible refine (hop _ (pw_below_drewN HB2.out _)).mono ?_); rintro e w3 ⟨b, rfl, hD, hb⟩; have HB3 := Aside0.mk (below_step (pw_below_drewN HB2.out _) hb); have HDK := Aside0.mk hD; clear hb hD) | (go_at_call 37; (with_reducible refine (htr _ _ HDK.out).mono ?_); rintro e w4 ⟨rfl, hb⟩; have HB4 := Aside0.mk (below_step HB3.out hb); clear hb)); go_ret2; exact ⟨rfl, zq71⟩)
   ·rw [if_neg (by rw [hw3]; decide)] at hj
    rw [hw3] at hwn3
    cases hw4 : win a4 0 ((l1.length : Int) - 1)
    ·rw [if_pos hw4] at hj
     obtain ⟨rfl, rfl⟩ : 0 = r1 ∧ 7 = r2 := by simpa using hj
     rw [hw4] at hwn4
     (go_enter Try.func25, Try.ntmps25; go_wp2_with (first | (go_at_call 19; (with_reducible refine hlog.mono ?_); rintro e w1 ⟨rfl, hb⟩; have HB2 := Aside0.mk (below_step HB1.out hb); have HC2 := Aside0.mk (blk_below HC1.out hb); (try have hx1 := (HB2.out.cell (World.block_lt_of_cell? w _ HX.out)).trans HX.out); have hc0 : ∀ n, (w1.drewN n).cell? ⟨w.heap.size, 0, none⟩ = some (.int .i64 a0_0) := fun n => (blk_cell HC2.out 0).trans rfl; have hc1' : ∀ n, (w1.drewN n).cell? ⟨w.heap.size, 1, none⟩ = some (.slice A0_1 l0_1.length c0_1) := fun n => (blk_cell HC2.out 1).trans rfl; have hc2 : ∀ n, (w1.drewN n).cell? ⟨w.heap.size, 2, none⟩ = some (.slice A0_2 l0_2.length c0_2) := fun n => (blk_cell HC2.out 2).trans rfl; have hc01 : w1.cell? ⟨w.heap.size, 1, none⟩ = some (.slice A0_1 l0_1.length c0_1) := (blk_cell HC2.out 1).trans rfl; have hc02 : w1.cell? ⟨w.heap.size, 2, none⟩ = some (.slice A0_2 l0_2.length c0_2) := (blk_cell HC2.out 2).trans rfl; clear hb) | (go_at_call 36; (with_reducible refine (hwn2 _).mono ?_); rintro e w2 ⟨rfl, nd, rfl⟩) | (go_at_call 36; (with_reducible refine (hwn3 _).mono ?_); rintro e w2 ⟨rfl, nd, rfl⟩) | (go_at_call 36; (with_reducible refine (hwn4 _).mono ?_); rintro e w2 ⟨rfl, nd, rfl⟩) | (go_at_call 32; (with_reducible refine (hop _ (pw_below_drewN HB2.out _)).mono ?_); rintro e w3 ⟨b, rfl, hD, hb⟩; have HB3 := Aside0.mk (below_step (pw_below_drewN HB2.out _) hb); have HDK := Aside0.mk hD; clear hb hD) | (go_at_call 37; (with_reducible refine (htr _ _ HDK.out).mono ?_); rintro e w4 ⟨rfl, hb⟩; have HB4 := Aside0.mk (below_step HB3.out hb); clear hb)); go_ret2; exact ⟨rfl, zq71⟩)
    ·rw [if_neg (by rw [hw4]; decide)] at hj
     rw [hw4] at hwn4
     have hwt2 := win_true hw2
     have hwt3 := win_true hw3
     have hwt4 := win_true hw4
     obtain ⟨ad, e, hx0, hx1, hx2, hx3, hx4, hx5, hx6⟩ := at_T45 HR1.out a4 hwt4.1 zq17
     cases e
     have HX := Aside0.mk hx1
     clear hx0 hx1 hx2 hx3 hx4 hx5 hx6
     have g0 := eq_true hwt4.1
     have g1 : a4 < (l1.length : Int) := by omega
     by_cases hk : (rd_T45 l1 a4).f1 = 1
     ·rw [if_neg (fun hh => hh hk)] at hj
      obtain ⟨h1, rfl⟩ : trU a0_0 l0_2 l1 a2 a3 a4 = r1 ∧ 0 = r2 := by simpa using hj
      rw [hk] at HX
      have htr := fun b W (hD : Desk W A0_1 c0_1 l0_1 A0_2 c0_2 l0_2 (some ad) c1 l1 b) => hD.trusted a0_0 a2 a3 a4 hwt2.1 zq17 hwt3.1 (by have := HN1.out; omega)
      rw [h1] at htr
      clear hj h1 hwt2 hwt3 hwt4
      (go_enter Try.func25, Try.ntmps25; go_wp2_with (first | (go_at_call 19; (with_reducible refine hlog.mono ?_); rintro e w1 ⟨rfl, hb⟩; have HB2 := Aside0.mk (below_step HB1.out hb); have HC2 := Aside0.mk (blk_below HC1.out hb); (try have hx1 := (HB2.out.cell (World.block_lt_of_cell? w _ HX.out)).trans HX.out); have hc0 : ∀ n, (w1.drewN n).cell? ⟨w.heap.size, 0, none⟩ = some (.int .i64 a0_0) := fun n => (blk_cell HC2.out 0).trans rfl; have hc1' : ∀ n, (w1.drewN n).cell? ⟨w.heap.size, 1, none⟩ = some (.slice A0_1 l0_1.length c0_1) := fun n => (blk_cell HC2.out 1).trans rfl; have hc2 : ∀ n, (w1.drewN n).cell? ⟨w.heap.size, 2, none⟩ = some (.slice A0_2 l0_2.length c0_2) := fun n => (blk_cell HC2.out 2).trans rfl; have hc01 : w1.cell? ⟨w.heap.size, 1, none⟩ = some (.slice A0_1 l0_1.length c0_1) := (blk_cell HC2.out 1).trans rfl; have hc02 : w1.cell? ⟨w.heap.size, 2, none⟩ = some (.slice A0_2 l0_2.length c0_2) := (blk_cell HC2.out 2).trans rfl; clear hb) | (go_at_call 36; (with_reducible refine (hwn2 _).mono ?_); rintro e w2 ⟨rfl, nd, rfl⟩) | (go_at_call 36; (with_reducible refine (hwn3 _).mono ?_); rintro e w2 ⟨rfl, nd, rfl⟩) | (go_at_call 36; (with_reducible refine (hwn4 _).mono ?_); rintro e w2 ⟨rfl, nd, rfl⟩) | (go_at_call 32; (with_reducible refine (hop _ (pw_below_drewN HB2.out _)).mono ?_); rintro e w3 ⟨b, rfl, hD, hb⟩; have HB3 := Aside0.mk (below_step (pw_below_drewN HB2.out _) hb); have HDK := Aside0.mk hD; clear hb hD) | (go_at_call 37; (with_reducible refine (htr _ _ HDK.out).mono ?_); rintro e w4 ⟨rfl, hb⟩; have HB4 := Aside0.mk (below_step HB3.out hb); clear hb)); go_ret2; exact ⟨rfl, zq71⟩)
     ·rw [if_pos hk] at hj
      obtain ⟨rfl, rfl⟩ : 0 = r1 ∧ 1 = r2 := by simpa using hj
      have hkb : ((rd_T45 l1 a4).f1 == 1) = false := by simp [hk]
      clear hwt2 hwt3 hwt4
      (go_enter Try.func25, Try.ntmps25; go_wp2_with (first | (go_at_call 19; (with_reducible refine hlog.mono ?_); rintro e w1 ⟨rfl, hb⟩; have HB2 := Aside0.mk (below_step HB1.out hb); have HC2 := Aside0.mk (blk_below HC1.out hb); (try have hx1 := (HB2.out.cell (World.block_lt_of_cell? w _ HX.out)).trans HX.out); have hc0 : ∀ n, (w1.drewN n).cell? ⟨w.heap.size, 0, none⟩ = some (.int .i64 a0_0) := fun n => (blk_cell HC2.out 0).trans rfl; have hc1' : ∀ n, (w1.drewN n).cell? ⟨w.heap.size, 1, none⟩ = some (.slice A0_1 l0_1.length c0_1) := fun n => (blk_cell HC2.out 1).trans rfl; have hc2 : ∀ n, (w1.drewN n).cell? ⟨w.heap.size, 2, none⟩ = some (.slice A0_2 l0_2.length c0_2) := fun n => (blk_cell HC2.out 2).trans rfl; have hc01 : w1.cell? ⟨w.heap.size, 1, none⟩ = some (.slice A0_1 l0_1.length c0_1) := (blk_cell HC2.out 1).trans rfl; have hc02 : w1.cell? ⟨w.heap.size, 2, none⟩ = some (.slice A0_2 l0_2.length c0_2) := (blk_cell HC2.out 2).trans rfl; clear hb) | (go_at_call 36; (with_reducible refine (hwn2 _).mono ?_); rintro e w2 ⟨rfl, nd, rfl⟩) | (go_at_call 36; (with_reducible refine (hwn3 _).mono ?_); rintro e w2 ⟨rfl, nd, rfl⟩) | (go_at_call 36; (with_reducible refine (hwn4 _).mono ?_); rintro e w2 ⟨rfl, nd, rfl⟩) | (go_at_call 32; (with_reducible refine (hop _ (pw_below_drewN HB2.out _)).mono ?_); rintro e w3 ⟨b, rfl, hD, hb⟩; have HB3 := Aside0.mk (below_step (pw_below_drewN HB2.out _) hb); have HDK := Aside0.mk hD; clear hb hD) | (go_at_call 37; (with_reducible refine (htr _ _ HDK.out).mono ?_); rintro e w4 ⟨rfl, hb⟩; have HB4 := Aside0.mk (below_step HB3.out hb); clear hb)); go_ret2; exact ⟨rfl, zq71⟩)
 ·rw [if_pos h0] at hj
  obtain ⟨rfl, h3⟩ : 0 = r1 ∧ logS a0_0 l0_1 l0_2 l1 = r2 := by simpa using hj
  rw [h3] at hlog h0
  have hb0 : (r2 == 0) = false := by simpa using h0
  clear hj h3 h0
  (go_enter Try.func25, Try.ntmps25; go_wp2_with (first | (go_at_call 19; (with_reducible refine hlog.mono ?_); rintro e w1 ⟨rfl, hb⟩; have HB2 := Aside0.mk (below_step HB1.out hb); have HC2 := Aside0.mk (blk_below HC1.out hb); (try have hx1 := (HB2.out.cell (World.block_lt_of_cell? w _ HX.out)).trans HX.out); have hc0 : ∀ n, (w1.drewN n).cell? ⟨w.heap.size, 0, none⟩ = some (.int .i64 a0_0) := fun n => (blk_cell HC2.out 0).trans rfl; have hc1' : ∀ n, (w1.drewN n).cell? ⟨w.heap.size, 1, none⟩ = some (.slice A0_1 l0_1.length c0_1) := fun n => (blk_cell HC2.out 1).trans rfl; have hc2 : ∀ n, (w1.drewN n).cell? ⟨w.heap.size, 2, none⟩ = some (.slice A0_2 l0_2.length c0_2) := fun n => (blk_cell HC2.out 2).trans rfl; have hc01 : w1.cell? ⟨w.heap.size, 1, none⟩ = some (.slice A0_1 l0_1.length c0_1) := (blk_cell HC2.out 1).trans rfl; have hc02 : w1.cell? ⟨w.heap.size, 2, none⟩ = some (.slice A0_2 l0_2.length c0_2) := (blk_cell HC2.out 2).trans rfl; clear hb) | (go_at_call 36; (with_reducible refine (hwn2 _).mono ?_); rintro e w2 ⟨rfl, nd, rfl⟩) | (go_at_call 36; (with_reducible refine (hwn3 _).mono ?_); rintro e w2 ⟨rfl, nd, rfl⟩) | (go_at_call 36; (with_reducible refine (hwn4 _).mono ?_); rintro e w2 ⟨rfl, nd, rfl⟩) | (go_at_call 32; (with_reducible refine (hop _ (pw_below_drewN HB2.out _)).mono ?_); rintro e w3 ⟨b, rfl, hD, hb⟩; have HB3 := Aside0.mk (below_step (pw_below_drewN HB2.out _) hb); have HDK := Aside0.mk hD; clear hb hD) | (go_at_call 37; (with_reducible refine (htr _ _ HDK.out).mono ?_); rintro e w4 ⟨rfl, hb⟩; have HB4 := Aside0.mk (below_step HB3.out hb); clear hb)); go_ret2; exact ⟨rfl, zq71⟩)
theorem verdP_get (every : Int) (fl : List S58) (st : List S56) (l : List S45) : ∀ n i, i < n → (verdP every fl st l n).getD i 0 = vdS every fl st l i
 | 0, i, h => by omega
 | n + 1, i, h => by
  unfold verdP
  by_cases hi : i = n
  ·subst hi
   rw [List.getD_eq_getElem?_getD, List.getElem?_append_right (by rw [verdP_len]; exact Nat.le_refl _), verdP_len]
   simp
  ·rw [List.getD_eq_getElem?_getD, List.getElem?_append_left (by rw [verdP_len]; omega), ← List.getD_eq_getElem?_getD]
   exact verdP_get every fl st l n i zq17
def posP (every : Int) (fl : List S58) (st : List S56) (l : List S45) (v : Int) : Nat → List Int
 | 0 => []
 | n + 1 => if vdS every fl st l n = v then posP every fl st l v n ++ [(n : Int)] else posP every fl st l v n
theorem posP_len (every : Int) (fl : List S58) (st : List S56) (l : List S45) (v : Int) : ∀ n, (posP every fl st l v n).length ≤ n
 | 0 => by simp [posP]
 | n + 1 => by
  have := posP_len every fl st l v n
  unfold posP
  split
  ·simp; omega
  ·omega
def blockedF (a0_0 : Int) (l0_1 : List S58) (l0_2 : List S56) (l1 : List S45) : List Int × Int :=
 if logS a0_0 l0_1 l0_2 l1 ≠ 0 then ([], logS a0_0 l0_1 l0_2 l1) else (posP a0_0 l0_1 l0_2 l1 3 l1.length, 0)
def inspect_Blocked.f (a0_0 : Int) (l0_1 : List S58) (l0_2 : List S56) (l1 : List S45) : Option (List Int × Int) := some (blockedF a0_0 l0_1 l0_2 l1)
set_option maxHeartbeats 4000000 in
set_option maxRecDepth 100000 in
theorem inspect_Blocked.calls (a0_0 : Int) (A0_1 : Option Addr) (c0_1 : Nat) (l0_1 : List S58) (A0_2 : Option Addr) (c0_2 : Nat) (l0_2 : List S56) (A1 : Option Addr) (c1 : Nat) (l1 : List S45) (r1 : List Int) (r2 : Int) (w : World)
  (hr0_1 : Kd.C k58 w A0_1 l0_1.length l0_1) (hc0_1 : l0_1.length ≤ c0_1) (hr0_2 : Kd.C k56 w A0_2 l0_2.length l0_2) (hc0_2 : l0_2.length ≤ c0_2) (hr1 : Kd.C k45 w A1 l1.length l1) (hc1 : l1.length ≤ c1) (h : inspect_Blocked.f a0_0 l0_1 l0_2 l1 = some (r1, r2)) :
  Calls Try.prog 12 #[.agg #[.int .i64 a0_0, .slice A0_1 l0_1.length c0_1, .slice A0_2 l0_2.length c0_2], .slice A1 l1.length c1] w fun e w' =>
   ∃ v0_ : Value, e = .returned (.tuple #[v0_, .int .i64 r2]) ∧ Kd.R (Kd.int .i64) 3 w' w.heap.size (fun _ => True) v0_ r1 ∧ Below w.heap.size w w' := by
 have hj : blockedF a0_0 l0_1 l0_2 l1 = (r1, r2) := Option.some.inj h
 clear h
 have hb1 := (Below.refl w.heap.size w).alloc (Nat.le_refl _) (.cells #[.int .i64 a0_0, .slice A0_1 l0_1.length c0_1, .slice A0_2 l0_2.length c0_2] 25)
 have hlog := checklog_plain a0_0 A0_1 c0_1 l0_1 A0_2 c0_2 l0_2 A1 c1 l1 w hr0_1 hc0_1 hr0_2 hc0_2 hr1 hc1 _ hb1
 have HB1 := Aside0.mk hb1
 have HC1 := Aside0.mk (blk_new w (.cells #[.int .i64 a0_0, .slice A0_1 l0_1.length c0_1, .slice A0_2 l0_2.length c0_2] 25))
 clear hb1
 unfold blockedF at hj
 by_cases h0 : logS a0_0 l0_1 l0_2 l1 = 0
 ·rw [if_neg (fun hh => hh h0)] at hj
  obtain ⟨rfl, rfl⟩ : posP a0_0 l0_1 l0_2 l1 3 l1.length = r1 ∧ 0 = r2 := by simpa using hj
  have hv := logS_valid h0
  have hop := opened_valid a0_0 A0_1 c0_1 l0_1 A0_2 c0_2 l0_2 A1 c1 l1 w hr0_1 hc0_1 hr0_2 hc0_2 hr1 hv
  have hvd := fun b W (hD : Desk W A0_1 c0_1 l0_1 A0_2 c0_2 l0_2 A1 c1 l1 b) => inspect_verdicts.calls a0_0 A0_1 c0_1 l0_1 A0_2 c0_2 l0_2 A1 c1 l1 b W hD
  rw [h0] at hlog
  have HLEN := Aside0.mk hv.len
  clear hr0_1 hr0_2 hr1 hv h0 hj
  go_enter Try.func12, Try.ntmps12
  go_wp2_with (first
   | (go_at_call 19; (with_reducible refine hlog.mono ?_); rintro e w1 ⟨rfl, hb⟩; have HB2 := Aside0.mk (below_step HB1.out hb); have HC2 := Aside0.mk (blk_below HC1.out hb); have hc00 : w1.cell? ⟨w.heap.size, 0, none⟩ = some (.int .i64 a0_0) := (blk_cell HC2.out 0).trans rfl; have hc01 : w1.cell? ⟨w.heap.size, 1, none⟩ = some (.slice A0_1 l0_1.length c0_1) := (blk_cell HC2.out 1).trans rfl; have hc02 : w1.cell? ⟨w.heap.size, 2, none⟩ = some (.slice A0_2 l0_2.length c0_2) := (blk_cell HC2.out 2).trans rfl; clear hb)
   | (go_at_call 32; (with_reducible refine (hop _ HB2.out).mono ?_); rintro e w3 ⟨b, rfl, hD, hb⟩; have HB3 := Aside0.mk (below_step HB2.out hb); have HDK := Aside0.mk hD; clear hb hD)
   | (go_at_call 33; (with_reducible refine (hvd _ _ HDK.out).mono ?_); rintro e w4 ⟨g, rfl, ho, hb⟩; have HB4 := Aside0.mk (below_step HB3.out hb); have HO4 := Aside0.mk (own_weaken ho HB3.out.size); clear hb ho))
  go_loopg [7, 21] l1.length (fun gg s7 s21 wr => ∃ (i : Nat) (v7 : Value), s21 = .int .i64 (i : Int) ∧ v7 = s7 ∧ Aside0 (i ≤ l1.length ∧ l1.length - i ≤ gg) ∧ Aside0 (Below w.heap.size w wr) ∧
   Aside0 (wr.ownsRow w.heap.size 46 1 (.slice (some ⟨g, 0, none⟩) l1.length l1.length) l1.length (nums .u8 (verdP a0_0 l0_1 l0_2 l1 l1.length))) ∧
   Aside0 (Kd.R (Kd.int .i64) 3 wr w.heap.size (fun _ => True) v7 (posP a0_0 l0_1 l0_2 l1 3 i)))
  case atStart => exact ⟨0, _, rfl, rfl, ⟨zq17, zq17⟩, HB4, HO4, ⟨Kd.R_nil _ _ _ _ _⟩⟩
  case round =>
   obtain ⟨i, v7, rfl, rfl, hi, HB, HO, HR⟩ := hrel
   by_cases hlt : i < l1.length
   ·have hlt' : (i : Int) < (l1.length : Int) := by omega
    have hb0 : decide (i < l1.length) = true := decide_eq_true hlt
    have hq0 : 0 ≤ (i : Int) := by omega
    have hq1 : (i : Int) ≤ 511 := by have := HLEN.out; omega
    have hca := (own_at HO.out (i : Int) hq0 hlt').1
    have hg : rd (verdP a0_0 l0_1 l0_2 l1 l1.length) (i : Int) = vdS a0_0 l0_1 l0_2 l1 i := by
     have := verdP_get a0_0 l0_1 l0_2 l1 l1.length i hlt
     unfold rd
     rw [Int.toNat_natCast]
     exact this
    rw [hg, Int.toNat_natCast] at hca
    clear hg
    have hpos : posP a0_0 l0_1 l0_2 l1 3 (i + 1) = if vdS a0_0 l0_1 l0_2 l1 i = 3 then posP a0_0 l0_1 l0_2 l1 3 i ++ [(i : Int)] else posP a0_0 l0_1 l0_2 l1 3 i := rfl
    have hlenp := posP_len a0_0 l0_1 l0_2 l1 3 i
    generalize vdS a0_0 l0_1 l0_2 l1 i = t at hca hpos
    have HP := Aside0.mk hpos
    have HLP := Aside0.mk hlenp
    clear hpos hlenp
    by_cases ht : t = 3
    ·subst ht
     have HO5 := Aside0.mk (own_move (w1 := wr.alloc (.cells #[.int .i64 (i : Int)] 3)) HO.out (fun k hk => Below.heap_alloc _ _ k (own_lt HO.out k hk)))
     go_wp2_with (((with_reducible refine gate_dst (N := 31) rfl ?_); go_must (refine Kd.R_append (Kd.int .i64) (w0 := w) (W := wr) w.heap.size rfl (.tmp 28) (.tmp 30) 29 3 (.int .i64 0) 8 rfl Try.underlying29 info3 rfl zq53 zq17 v7 (posP a0_0 l0_1 l0_2 l1 3 i) (i : Int) [.int .i64 (i : Int)] (fun _ => True) (fun _ => False) rfl rfl rfl (fun _ hk => hk.elim) (fun _ _ => trivial) HR.out HB.out HB.out.size ?aL ?_); (case aL => have := HLP.out; have := HLEN.out; omega); intro v1 w1 ho hb hg hat; have HR1 := Aside0.mk ho; have HB5 := Aside0.mk hb; have HOW := Aside0.mk (own_other HO.out hg (by obtain ⟨inner, hin⟩ := Kd.R_own HR.out; exact own_type_ne HO.out hin zq53)); clear ho hb hg hat))
     go_roundg (l1.length - (i + 1))
     case measure => have := hi.out; omega
     case rel => exact ⟨i + 1, _, zq96, rfl, ⟨zq17⟩, HB5, HOW, ⟨by rw [HP.out, if_pos trivial]; exact HR1.out⟩⟩
    ·have hbt : (t == 3) = false := by simpa using ht
     have HT := Aside0.mk ht
     clear ht
     go_wp2
     go_roundg (l1.length - (i + 1))
     case measure => have := hi.out; omega
     case rel => exact ⟨i + 1, _, zq96, rfl, ⟨zq17⟩, HB, HO, ⟨by rw [HP.out, if_neg HT.out]; exact HR.out⟩⟩
   ·have hlen : i = l1.length := by have := hi.out; omega
    have hb0 : decide (i < l1.length) = false := decide_eq_false hlt
    have HLN := Aside0.mk hlen
    clear hlen
    go_wp2
    go_ret2
    exact ⟨_, rfl, by rw [← HLN.out]; exact HR.out, HB.out⟩
 ·rw [if_pos h0] at hj
  obtain ⟨rfl, h3⟩ : [] = r1 ∧ logS a0_0 l0_1 l0_2 l1 = r2 := by simpa using hj
  rw [h3] at hlog h0
  have hb0 : (r2 == 0) = false := by simpa using h0
  clear hj h3 h0
  go_enter Try.func12, Try.ntmps12
  go_wp2_with (go_at_call 19; (with_reducible refine hlog.mono ?_); rintro e w1 ⟨rfl, hb⟩; have HB2 := Aside0.mk (below_step HB1.out hb); clear hb)
  go_ret2
  exact ⟨_, rfl, Kd.R_nil _ _ _ _ _, HB2.out⟩
set_option maxHeartbeats 4000000 in
set_option maxRecDepth 100000 in
theorem inspect_lowest.calls (n d : Nat) (w : World) (hd : 0 < d) (hn : n ≤ 1000000000000) (hd2 : d ≤ 1000000000000) :
  Calls Try.prog 39 #[.int .i64 (n : Int), .int .i64 (d : Int)] w fun e w' => e = .returned (.agg #[.int .i64 ((n / Nat.gcd n d : Nat) : Int), .int .i64 ((d / Nat.gcd n d : Nat) : Int)]) ∧ Below w.heap.size w w' := by
 have HX := Aside0.mk (blk_new w (.cells #[.int .i64 0, .int .i64 0] 35))
 have HB := Aside0.mk ((Below.refl w.heap.size w).alloc (Nat.le_refl _) (.cells #[.int .i64 0, .int .i64 0] 35))
 have HD := Aside0.mk hd
 clear hd
 go_enter Try.func39, Try.ntmps39
 go_wp2
 go_loopg [5, 6] d (fun gg s5 s6 wr => ∃ a b : Nat, s5 = .int .i64 (a : Int) ∧ s6 = .int .i64 (b : Int) ∧ Aside0 (b ≤ gg ∧ a ≤ 1000000000000 ∧ b ≤ 1000000000000 ∧ Nat.gcd a b = Nat.gcd n d ∧ (0 < a ∨ 0 < b)) ∧ Aside0 (Below w.heap.size w wr) ∧
  Aside0 (wr.heap[w.heap.size]? = some (.cells #[.int .i64 0, .int .i64 0] 35 (0, 0))))
 case atStart => exact ⟨n, d, rfl, rfl, ⟨zq17, hn, hd2, rfl, .inr HD.out⟩, HB, HX⟩
 case round =>
  obtain ⟨a, b, rfl, rfl, hi, HB, HX⟩ := hrel
  by_cases hb : b = 0
  ·subst hb
   have hg : a = Nat.gcd n d := by have := hi.out.2.2.2.1; rwa [Nat.gcd_zero_right] at this
   have ha : 0 < a := by have := hi.out.2.2.2.2; omega
   have hq1 : Int.tdiv (n : Int) (a : Int) = ((n / a : Nat) : Int) := by rw [Int.tdiv_eq_ediv_of_nonneg zq17]; rfl
   have hq2 : Int.tdiv (d : Int) (a : Int) = ((d / a : Nat) : Int) := by rw [Int.tdiv_eq_ediv_of_nonneg zq17]; rfl
   have hb1 : n / a ≤ 1000000000000 := Nat.le_trans (Nat.div_le_self _ _) hn
   have hb2 : d / a ≤ 1000000000000 := Nat.le_trans (Nat.div_le_self _ _) hd2
   have HE := Aside0.mk (show n / Nat.gcd n d = n / a ∧ d / Nat.gcd n d = d / a by rw [← hg]; exact ⟨rfl, rfl⟩)
   generalize n / a = x at hq1 hb1 HE
   generalize d / a = y at hq2 hb2 HE
   have hw1 : IntKind.i64.wrap (x : Int) = (x : Int) := Go.IntWalk.i64_in _ zq17
   have hw2 : IntKind.i64.wrap (y : Int) = (y : Int) := Go.IntWalk.i64_in _ zq17
   have x0 := (blk_cell HX.out 0).trans (rfl : _ = some (Value.int .i64 0))
   have x1 := (blk_cell HX.out 1).trans (rfl : _ = some (Value.int .i64 0))
   have f0 := blk_frozen HX.out 0
   have f1 := blk_frozen HX.out 1
   have ha0 : ((a : Int) == 0) = false := by simp; omega
   have ha1 : (a : Int) ≠ 0 := by omega
   clear hg hn hd2
   go_wp2
   go_region
   go_wp2
   have e1 := blk_put (cs' := #[.int .i64 (x : Int), .int .i64 0]) HX.out 0 (.int .i64 (x : Int)) rfl
   have e2 := blk_put (cs' := #[.int .i64 (x : Int), .int .i64 (y : Int)]) e1 1 (.int .i64 (y : Int)) rfl
   refine bodyPost_ret (results_cell_row rfl _ _ w.heap.size 35 #[.int .i64 (x : Int), .int .i64 (y : Int)] (0, 0) _ rfl (blk_drew e2) Try.underlying35 rfl zq32) rfl ⟨by rw [HE.out.1, HE.out.2], ?_⟩
   exact ((HB.out.setCell (p := ⟨w.heap.size, 0, none⟩) zq81 _).setCell (p := ⟨w.heap.size, 1, none⟩) zq81 _).drew
  ·have hbb : ((b : Int) == 0) = false := by simp; omega
   have hb1 : (b : Int) ≠ 0 := by omega
   have hr : Int.tmod (a : Int) (b : Int) = ((a % b : Nat) : Int) := by rw [Int.tmod_eq_emod_of_nonneg zq17]; rfl
   have hlt : a % b < b := Nat.mod_lt _ zq17
   have hw : IntKind.i64.wrap ((a % b : Nat) : Int) = ((a % b : Nat) : Int) := Go.IntWalk.i64_in _ zq90
   have hg : Nat.gcd b (a % b) = Nat.gcd n d := by rw [← hi.out.2.2.2.1, Nat.gcd_comm b, ← Nat.gcd_rec, Nat.gcd_comm]
   generalize a % b = c at *
   go_wp2
   go_quiet (fail)
   go_wp2
   go_roundg c
   case measure => have := hi.out; omega
   case rel => exact ⟨b, c, rfl, rfl, ⟨Nat.le_refl _, zq90, zq90, hg, .inl zq17⟩, ⟨pw_below_drewN HB.out _⟩, ⟨blk_drewN HX.out _⟩⟩
set_option maxHeartbeats 4000000 in
set_option maxRecDepth 100000 in
theorem inspect_less.calls (n d m e : Nat) (w : World) (hn : n ≤ 1000000000000) (hd : d ≤ 1000000000000) (hm : m ≤ 1000000000000) (he : e ≤ 1000000000000) :
  Calls Try.prog 40 #[.agg #[.int .i64 (n : Int), .int .i64 (d : Int)], .agg #[.int .i64 (m : Int), .int .i64 (e : Int)]] w fun e_ w' => e_ = .returned (.bool (decide (n * e < m * d))) ∧ Below w.heap.size w w' := by
 have c1 := Try.bits_Mul64 n e zq17 zq17
 have c2 := Try.bits_Mul64 m d zq17 zq17
 have HB := Aside0.mk (((Below.refl w.heap.size w).alloc (Nat.le_refl _) (.cells #[.int .i64 (n : Int), .int .i64 (d : Int)] 35)).alloc zq81 (.cells #[.int .i64 (m : Int), .int .i64 (e : Int)] 35))
 have hx1 : n * e / 18446744073709551616 * 18446744073709551616 + n * e % 18446744073709551616 = n * e := Nat.div_add_mod' _ _
 have hx2 : m * d / 18446744073709551616 * 18446744073709551616 + m * d % 18446744073709551616 = m * d := Nat.div_add_mod' _ _
 have hl1 : n * e % 18446744073709551616 < 18446744073709551616 := Nat.mod_lt _ zq53
 have hl2 : m * d % 18446744073709551616 < 18446744073709551616 := Nat.mod_lt _ zq53
 generalize n * e / 18446744073709551616 = a1 at c1 hx1
 generalize n * e % 18446744073709551616 = b1 at c1 hx1 hl1
 generalize m * d / 18446744073709551616 = a2 at c2 hx2
 generalize m * d % 18446744073709551616 = b2 at c2 hx2 hl2
 rw [← hx1, ← hx2]
 have k1 : (convert 3 114 (.int .i64 (n : Int))) = (convert 3 114 (.int .i64 (n : Int))) := rfl
 have hans : decide (a1 * 18446744073709551616 + b1 < a2 * 18446744073709551616 + b2) = (decide (a1 < a2) || (decide (a1 = a2) && decide (b1 < b2))) := by
  by_cases h1 : a1 < a2
  ·simp [h1]; omega
  ·by_cases h2 : a1 = a2
   ·subst h2; simp
   ·simp [h1, h2]; omega
 rw [hans]
 clear hans hx1 hx2 hl1 hl2
 go_enter Try.func40, Try.ntmps40
 go_wp2_with (first | (go_at_call 65; (with_reducible refine (c1 _).mono ?_); rintro e w1 ⟨rfl, rfl⟩) | (go_at_call 65; (with_reducible refine (c2 _).mono ?_); rintro e w1 ⟨rfl, rfl⟩))
 all_goals (go_ret; refine ⟨?_, HB.out⟩; by_cases h1 : a1 < a2 <;> by_cases h2 : a1 = a2 <;> by_cases h3 : b1 < b2 <;> simp_all <;> omega)
def clmV (st : List S56) (s k : Int) : S68 := rd_T68 (rd_T56 st s).f1 (idxOf (fun x : S68 => x.f0 == k) (rd_T56 st s).f1)
theorem claim_val (a0 : Int) (fl : List S58) (st : List S56) (s k : Int) (h0 : 0 ≤ s) (h1 : s < st.length) (hc : clmB st s k = true) : inspect_claim.f a0 fl st s k = some ((clmV st s k).f0, (clmV st s k).f1, (clmV st s k).f2, true) := by
 unfold inspect_claim.f IdxClaim.f clmV
 unfold clmB at hc
 rw [if_pos h0, if_pos h1]
 simp only [Option.bind_some]
 have h2 := idxOf_any (fun x : S68 => x.f0 == k) (rd_T56 st s).f1
 have h3 := idxOf_lo (fun x : S68 => x.f0 == k) (rd_T56 st s).f1
 rw [hc] at h2
 have h4 := of_decide_eq_true h2
 rw [if_neg zq17, if_pos h4, if_pos h3.2]
theorem trU_claim {every : Int} {st : List S56} {l : List S45} {s k entry : Int} (h : trU every st l s k entry = 1) : clmB st s k = true := by
 unfold trU trustS at h
 cases hc : clmB st s k
 ·rw [hc, if_pos rfl] at h
  exact absurd h zq53
 ·rfl
theorem Valid.claim {every : Int} {fl : List S58} {st : List S56} {l : List S45} (h : Valid every fl st l) {s k : Int} (h0 : 0 ≤ s) (h1 : s < st.length) (hc : clmB st s k = true) : 0 ≤ (clmV st s k).f1 ∧ (clmV st s k).f1 ≤ (clmV st s k).f2 ∧ 1 ≤ (clmV st s k).f2 ∧ (clmV st s k).f2 ≤ 1000 := by
 have hs := h.se s.toNat zq17
 have hcast : ((s.toNat : Nat) : Int) = s := by omega
 unfold standErr at hs
 rw [hcast] at hs
 split at hs
 ·exact absurd hs zq53
 ·split at hs
  ·exact absurd hs zq53
  ·unfold claimsS at hs
   split at hs
   ·exact absurd hs zq53
   ·have h2 := idxOf_any (fun x : S68 => x.f0 == k) (rd_T56 st s).f1
    have h3 := idxOf_lo (fun x : S68 => x.f0 == k) (rd_T56 st s).f1
    unfold clmB at hc
    rw [hc] at h2
    have h4 := of_decide_eq_true h2
    have h5 := firstErr_zero _ _ _ hs (idxOf (fun x : S68 => x.f0 == k) (rd_T56 st s).f1).toNat zq17 zq17
    unfold claimErr at h5
    rw [show (((idxOf (fun x : S68 => x.f0 == k) (rd_T56 st s).f1).toNat : Nat) : Int) = idxOf (fun x : S68 => x.f0 == k) (rd_T56 st s).f1 from by omega] at h5
    unfold clmV
    split at h5
    ·exact absurd h5 zq53
    ·split at h5
     ·exact absurd h5 zq53
     ·split at h5
      ·exact absurd h5 zq53
      ·rename_i h6
       split at h5
       ·exact absurd h5 zq53
       ·rename_i h7
        have h6 := win_true (by simpa using h6)
        have h7 := win_true (by simpa using h7)
        omega
def shareP (every : Int) (st : List S56) (l : List S45) (k entry : Int) : Nat → Nat × Nat
 | 0 => (1, 1)
 | j + 1 =>
  let p := shareP every st l k entry j
  if trU every st l j k entry = 1 then
   let a := p.1 * (clmV st j k).f1.toNat
   let b := p.2 * (clmV st j k).f2.toNat
   (a / Nat.gcd a b, b / Nat.gcd a b)
  else p
theorem shareP_bound {every : Int} {fl : List S58} {st : List S56} {l : List S45} (h : Valid every fl st l) (k entry : Int) : ∀ j, j ≤ st.length → (shareP every st l k entry j).1 ≤ 1000 ^ j ∧ (shareP every st l k entry j).2 ≤ 1000 ^ j ∧ 0 < (shareP every st l k entry j).2
 | 0, _ => by simp [shareP]
 | j + 1, hj => by
  obtain ⟨h1, h2, h3⟩ := shareP_bound h k entry j zq17
  have hp : 1000 ^ (j + 1) = 1000 ^ j * 1000 := Nat.pow_succ ..
  unfold shareP
  by_cases ht : trU every st l j k entry = 1
  ·simp only [ht, if_true]
   obtain ⟨c1, c2, c3, c4⟩ := h.claim (s := j) (k := k) zq17 zq17 (trU_claim ht)
   have hb : 0 < (shareP every st l k entry j).2 * (clmV st j k).f2.toNat := Nat.mul_pos h3 zq17
   refine ⟨?_, ?_, Nat.div_pos (Nat.gcd_le_right _ hb) (Nat.gcd_pos_of_pos_right _ hb)⟩
   ·refine Nat.le_trans (Nat.div_le_self _ _) ?_
    rw [hp]
    exact Nat.mul_le_mul h1 zq17
   ·refine Nat.le_trans (Nat.div_le_self _ _) ?_
    rw [hp]
    exact Nat.mul_le_mul h2 zq17
  ·simp only [ht, if_false]
   rw [hp]
   omega
def missP (every : Int) (fl : List S58) (st : List S56) (l : List S45) (k : Int) : Nat → Nat × Nat × Nat
 | 0 => (0, 1, 0)
 | n + 1 =>
  let p := missP every fl st l k n
  if vdS every fl st l n = 2 then
   let s := shareP every st l k n st.length
   if p.1 * s.2 < s.1 * p.2.1 then (s.1, s.2, p.2.2 + 1) else (p.1, p.2.1, p.2.2 + 1)
  else p
theorem pow4 {j : Nat} (h : j ≤ 4) : 1000 ^ j ≤ 1000000000000 := by
 have : 1000 ^ j ≤ 1000 ^ 4 := Nat.pow_le_pow_right zq53 h
 simpa using this
theorem missP_bound {every : Int} {fl : List S58} {st : List S56} {l : List S45} (h : Valid every fl st l) (k : Int) : ∀ n, (missP every fl st l k n).1 ≤ 1000000000000 ∧ (missP every fl st l k n).2.1 ≤ 1000000000000 ∧ 0 < (missP every fl st l k n).2.1 ∧ (missP every fl st l k n).2.2 ≤ n
 | 0 => by simp [missP]
 | n + 1 => by
  obtain ⟨h1, h2, h3, h4⟩ := missP_bound h k n
  obtain ⟨s1, s2, s3⟩ := shareP_bound h k n st.length (Nat.le_refl _)
  have hp := pow4 h.n2
  unfold missP
  by_cases hv : vdS every fl st l n = 2
  ·simp only [hv, if_true]
   split
   ·simp only; omega
   ·simp only; omega
  ·simp only [hv, if_false]
   omega
def missF (a0_0 : Int) (l0_1 : List S58) (l0_2 : List S56) (l1 : List S45) (a2 : Int) : Int × Int × Int × Int :=
 if logS a0_0 l0_1 l0_2 l1 ≠ 0 then (0, 0, 0, logS a0_0 l0_1 l0_2 l1) else if win a2 0 ((l0_1.length : Int) - 1) = false then (0, 0, 0, 7) else
 (((missP a0_0 l0_1 l0_2 l1 a2 l1.length).1 : Nat), ((missP a0_0 l0_1 l0_2 l1 a2 l1.length).2.1 : Nat), ((missP a0_0 l0_1 l0_2 l1 a2 l1.length).2.2 : Nat), 0)
def inspect_Missed.f (a0_0 : Int) (l0_1 : List S58) (l0_2 : List S56) (l1 : List S45) (a2 : Int) : Option (Int × Int × Int × Int) := some (missF a0_0 l0_1 l0_2 l1 a2)
theorem DeskIs.setCell {W : World} {b : Nat} {l : List S45} (h : DeskIs W b l) {g : Nat} {cs : Array Value} {t : TypeId} {fr : Nat × Nat} (hg : W.heap[g]? = some (.cells cs t fr)) (ht : t ≠ 3) (j : Nat) (v : Value) : DeskIs (W.setCell ⟨g, j, none⟩ v) b l := by
 obtain ⟨base, es, clock, h1, h2, h3, h4, h5⟩ := h
 have hbg : b ≠ g := fun e => by rw [← e, h1] at hg; cases hg
 refine ⟨base, es, clock, (Below.heap_setCell W ⟨g, j, none⟩ v b hbg).trans h1, h2, fun x hx => ?_, h4, h5⟩
 obtain ⟨a1, a2, a3⟩ := h3 x hx
 exact ⟨a1, a2, own_move a3 (fun k hk => Below.heap_setCell W ⟨g, j, none⟩ v k (fun e => own_ne_cells a3 hg ht (by rw [hk, e])))⟩
def clmR (st : List S56) (s c : Int) : Int × Int × Int × Bool := if clmB st s c = true then ((clmV st s c).f0, (clmV st s c).f1, (clmV st s c).f2, true) else (0, 0, 0, false)
theorem rclaim_l0 (a0 : Int) (fl : List S58) (st : List S56) (s c : Int) (h0 : 0 ≤ s) (h1 : s < st.length) (hL : (rd_T56 st s).f1.length ≤ 8) : ∀ r j k, j + r = (rd_T56 st s).f1.length → r < k → (∀ j', j' < j → ((rd_T68 (rd_T56 st s).f1 j').f0 == c) = false) →
  culletref07_claim.l0 k s c (j : Int) a0 fl st = some (clmR st s c)
 | 0, j, k, h, hk, hj => by
  obtain ⟨k, rfl⟩ : ∃ m, k = m + 1 := ⟨k - 1, zq17⟩
  have hm := idxOf_miss (fun x : S68 => x.f0 == c) z68 (rd_T56 st s).f1 (fun j' hj' => by simpa [rd_T68] using hj j' zq17)
  have ha := idxOf_any (fun x : S68 => x.f0 == c) (rd_T56 st s).f1
  rw [hm] at ha
  have hb : clmB st s c = false := by unfold clmB; rw [← ha]; rfl
  rw [culletref07_claim.l0, if_pos h0, if_pos h1, if_neg zq17]
  unfold clmR
  rw [hb]
  rfl
 | r + 1, j, k, h, hk, hj => by
  obtain ⟨k, rfl⟩ : ∃ m, k = m + 1 := ⟨k - 1, zq17⟩
  rw [culletref07_claim.l0, if_pos h0, if_pos h1, if_pos zq17, if_pos zq17]
  by_cases hc : (rd_T68 (rd_T56 st s).f1 (j : Int)).f0 = c
  ·have hm := idxOf_hit (fun x : S68 => x.f0 == c) z68 (rd_T56 st s).f1 j zq17 (fun j' hj' => by simpa [rd_T68] using hj j' hj') (by simpa [rd_T68] using hc)
   have ha := idxOf_any (fun x : S68 => x.f0 == c) (rd_T56 st s).f1
   rw [hm] at ha
   have hb : clmB st s c = true := by unfold clmB; rw [← ha]; exact decide_eq_true zq17
   rw [if_pos hc]
   unfold clmR clmV
   rw [hb, hm]
   rfl
  ·rw [if_neg hc, wsucc j zq17]
   exact rclaim_l0 a0 fl st s c h0 h1 hL r (j + 1) k zq17 zq17 (fun j' hj' => by
    by_cases he : j' = j
    ·subst he; simpa using hc
    ·exact hj j' zq17)
theorem rclaim_eq (a0 : Int) (fl : List S58) (st : List S56) (s c : Int) (h0 : 0 ≤ s) (h1 : s < st.length) (hL : (rd_T56 st s).f1.length ≤ 8) (k : Nat) (hk : 10 ≤ k) : culletref07_claim.f k a0 fl st s c = some (clmR st s c) :=
 rclaim_l0 a0 fl st s c h0 h1 hL (rd_T56 st s).f1.length 0 k zq17 zq17 (fun j' hj' => by omega)
theorem clmR_b (st : List S56) (s c : Int) : (clmR st s c).2.2.2 = clmB st s c := by
 unfold clmR
 cases h : clmB st s c <;> rfl
theorem rRun_eq (a0 : Int) (fl : List S58) (st : List S56) (x : S45) (hL : ∀ i, i < st.length → (rd_T56 st (i : Nat)).f1.length ≤ 8) (k : Nat) (hk : 12 ≤ k) : culletref07_checkRun.f k a0 fl st x.f0 x.f1 x.f2 x.f3 x.f4 x.f5 x.f6 = some (entErr fl st x) := by
 obtain ⟨k, rfl⟩ : ∃ m, k = m + 1 := ⟨k - 1, zq17⟩
 unfold culletref07_checkRun.f entErr
 by_cases h1 : x.f1 = 1
 ·rw [if_pos h1, if_pos h1]
  by_cases h2 : x.f2 < 0
  ·rw [if_pos h2, show win x.f2 0 1000000 = false from by unfold win; rw [show decide (0 ≤ x.f2) = false from decide_eq_false zq17]; rfl]
   rfl
  ·rw [if_neg h2]
   by_cases h3 : x.f2 > 1000000
   ·rw [if_pos h3, show win x.f2 0 1000000 = false from by unfold win; rw [show decide (x.f2 ≤ 1000000) = false from decide_eq_false zq17, Bool.and_false]]
    rfl
   ·rw [if_neg h3, show win x.f2 0 1000000 = true from by unfold win; rw [show decide (0 ≤ x.f2) = true from decide_eq_true zq17, show decide (x.f2 ≤ 1000000) = true from decide_eq_true zq17]; rfl]
    by_cases h4 : x.f3 < 0
    ·rw [if_pos h4, show win x.f3 0 999 = false from by unfold win; rw [show decide (0 ≤ x.f3) = false from decide_eq_false zq17]; rfl]
     rfl
    ·rw [if_neg h4]
     by_cases h5 : x.f3 > 999
     ·rw [if_pos h5, show win x.f3 0 999 = false from by unfold win; rw [show decide (x.f3 ≤ 999) = false from decide_eq_false zq17, Bool.and_false]]
      rfl
     ·rw [if_neg h5, show win x.f3 0 999 = true from by unfold win; rw [show decide (0 ≤ x.f3) = true from decide_eq_true zq17, show decide (x.f3 ≤ 999) = true from decide_eq_true zq17]; rfl]
      by_cases h6 : x.f4 = 0 <;> by_cases h7 : x.f5 = 0 <;> simp [h6, h7]
 ·rw [if_neg h1, if_neg h1]
  by_cases h2 : x.f4 < 0
  ·rw [if_pos h2, culletref07_checkRun.j0, if_pos rfl, show win x.f4 0 ((st.length : Int) - 1) = false from by unfold win; rw [show decide (0 ≤ x.f4) = false from decide_eq_false zq17]; rfl]
   rfl
  ·rw [if_neg h2]
   by_cases h3 : x.f4 ≥ st.length
   ·rw [if_pos h3, culletref07_checkRun.j0, if_pos rfl, show win x.f4 0 ((st.length : Int) - 1) = false from by unfold win; rw [show decide (x.f4 ≤ (st.length : Int) - 1) = false from decide_eq_false zq17, Bool.and_false]]
    rfl
   ·rw [if_neg h3, show win x.f4 0 ((st.length : Int) - 1) = true from by unfold win; rw [show decide (0 ≤ x.f4) = true from decide_eq_true zq17, show decide (x.f4 ≤ (st.length : Int) - 1) = true from decide_eq_true zq17]; rfl]
    by_cases h4 : x.f5 < 0
    ·rw [if_pos h4, culletref07_checkRun.j0, if_pos rfl, show win x.f5 0 ((fl.length : Int) - 1) = false from by unfold win; rw [show decide (0 ≤ x.f5) = false from decide_eq_false zq17]; rfl]
     rfl
    ·rw [if_neg h4]
     by_cases h5 : x.f5 ≥ fl.length
     ·rw [decide_eq_true h5, culletref07_checkRun.j0, if_pos rfl, show win x.f5 0 ((fl.length : Int) - 1) = false from by unfold win; rw [show decide (x.f5 ≤ (fl.length : Int) - 1) = false from decide_eq_false zq17, Bool.and_false]]
      rfl
     ·have hl := hL x.f4.toNat zq17
      rw [show ((x.f4.toNat : Nat) : Int) = x.f4 from by omega] at hl
      rw [decide_eq_false h5, culletref07_checkRun.j0, if_neg zq53, rclaim_eq a0 fl st x.f4 x.f5 zq17 zq17 hl k zq17, Option.bind_some, clmR_b, show win x.f5 0 ((fl.length : Int) - 1) = true from by unfold win; rw [show decide (0 ≤ x.f5) = true from decide_eq_true zq17, show decide (x.f5 ≤ (fl.length : Int) - 1) = true from decide_eq_true zq17]; rfl]
      by_cases h6 : x.f2 = 0 <;> by_cases h7 : x.f3 = 0 <;> cases clmB st x.f4 x.f5 <;> simp [h6, h7]
theorem chkS_claims {every : Int} {fl : List S58} {st : List S56} (h : chkS every fl st = 0) : ∀ i, i < st.length → (rd_T56 st (i : Nat)).f1.length ≤ 8 := fun i hi => by
 have hs := (chkS_zero h).2.2.2.2 i hi
 unfold standErr at hs
 split at hs
 ·exact absurd hs zq53
 ·split at hs
  ·exact absurd hs zq53
  ·unfold claimsS at hs
   split at hs
   ·exact absurd hs zq53
   ·omega
theorem rLog_l0 (a0 : Int) (fl : List S58) (st : List S56) (l : List S45) (hL : ∀ i, i < st.length → (rd_T56 st (i : Nat)).f1.length ≤ 8) (hl : l.length ≤ 512) : ∀ r i k, i + r = l.length → 3 * r + 20 < k → culletref07_CheckLog.l0 k l (i : Int) a0 fl st = some (firstErr (runErr fl st l) r i)
 | 0, i, k, h, hk => by
  obtain ⟨k, rfl⟩ : ∃ m, k = m + 1 := ⟨k - 1, zq17⟩
  rw [culletref07_CheckLog.l0, if_neg zq17]
  rfl
 | r + 1, i, k, h, hk => by
  obtain ⟨k, rfl⟩ : ∃ m, k = m + 1 + 1 + 1 := ⟨k - 3, zq17⟩
  have ih := rLog_l0 a0 fl st l hL hl r (i + 1) k zq17 zq17
  rw [firstErr_succ]
  have hj2 : ∀ b, culletref07_CheckLog.j2 (k + 1) l (i : Int) b a0 fl st (rd_T45 l i).f0 (rd_T45 l i).f1 (rd_T45 l i).f2 (rd_T45 l i).f3 (rd_T45 l i).f4 (rd_T45 l i).f5 (rd_T45 l i).f6 = some (if b = true then 8 else if entErr fl st (rd_T45 l i) = 0 then firstErr (runErr fl st l) r (i + 1) else entErr fl st (rd_T45 l i)) := by
   intro b
   rw [culletref07_CheckLog.j2, rRun_eq a0 fl st _ hL k zq17, wsucc i zq17, ih, Option.bind_some]
   cases b
   ·simp only [Bool.false_eq_true, if_false]
    split <;> rfl
   ·rfl
  have hj1 : culletref07_CheckLog.j1 (k + 1 + 1) l (i : Int) false a0 fl st (rd_T45 l i).f0 (rd_T45 l i).f1 (rd_T45 l i).f2 (rd_T45 l i).f3 (rd_T45 l i).f4 (rd_T45 l i).f5 (rd_T45 l i).f6 = some (if 0 < i ∧ (rd_T45 l ((i : Int) - 1)).f0 > (rd_T45 l i).f0 then 8 else if entErr fl st (rd_T45 l i) = 0 then firstErr (runErr fl st l) r (i + 1) else entErr fl st (rd_T45 l i)) := by
   rw [culletref07_CheckLog.j1, wpred i zq17, if_neg zq53]
   by_cases h0 : 0 < i
   ·rw [if_pos zq17, if_pos zq17, if_pos zq17, hj2]
    by_cases h1 : (rd_T45 l ((i : Int) - 1)).f0 > (rd_T45 l i).f0
    ·rw [decide_eq_true h1, if_pos rfl, if_pos (show 0 < i ∧ _ from ⟨h0, h1⟩)]
    ·rw [decide_eq_false h1, if_neg (show ¬ false = true by decide), if_neg (show ¬ (0 < i ∧ _) from fun hh => h1 hh.2)]
   ·rw [if_neg zq17, hj2, if_neg (show ¬ false = true by decide), if_neg (show ¬ (0 < i ∧ _) from fun hh => h0 hh.1)]
  have hjt : culletref07_CheckLog.j1 (k + 1 + 1) l (i : Int) true a0 fl st (rd_T45 l i).f0 (rd_T45 l i).f1 (rd_T45 l i).f2 (rd_T45 l i).f3 (rd_T45 l i).f4 (rd_T45 l i).f5 (rd_T45 l i).f6 = some 1 := by
   rw [culletref07_CheckLog.j1, if_pos rfl]
  rw [culletref07_CheckLog.l0, if_pos zq17, if_pos zq17]
  have hre : runErr fl st l i = if ¬ ((rd_T45 l i).f1 = 1 ∨ (rd_T45 l i).f1 = 2) then 1 else if win (rd_T45 l i).f0 0 1000000000 = false then 1 else
   if 0 < i ∧ (rd_T45 l ((i : Int) - 1)).f0 > (rd_T45 l i).f0 then 8 else entErr fl st (rd_T45 l i) := rfl
  have hre2 : ∀ c : Prop, [Decidable c] → (if (if c then (8 : Int) else entErr fl st (rd_T45 l i)) = 0 then firstErr (runErr fl st l) r (i + 1) else (if c then (8 : Int) else entErr fl st (rd_T45 l i))) = if c then 8 else if entErr fl st (rd_T45 l i) = 0 then firstErr (runErr fl st l) r (i + 1) else entErr fl st (rd_T45 l i) := by
   intro c _
   by_cases hc : c
   ·rw [if_pos hc, if_pos hc]; rfl
   ·rw [if_neg hc, if_neg hc]
  rw [hre]
  by_cases hk12 : (rd_T45 l i).f1 = 1 ∨ (rd_T45 l i).f1 = 2
  ·rw [if_neg (show ¬ ¬ ((rd_T45 l i).f1 = 1 ∨ (rd_T45 l i).f1 = 2) from fun h => h hk12)]
   have hred : ∀ (X Y Z : Option Int), X = Y → (if (rd_T45 l i).f1 = 1 then X else if (rd_T45 l i).f1 = 2 then Y else Z) = X := by
    rintro X Y Z rfl
    rcases hk12 with h1 | h1
    ·rw [if_pos h1]
    ·by_cases h2 : (rd_T45 l i).f1 = 1
     ·rw [if_pos h2]
     ·rw [if_neg h2, if_pos h1]
   rw [hred _ _ _ rfl]
   by_cases h1 : (rd_T45 l i).f0 < 0
   ·rw [if_pos h1, hjt, show win (rd_T45 l i).f0 0 1000000000 = false from by unfold win; rw [show decide (0 ≤ (rd_T45 l i).f0) = false from decide_eq_false zq17]; rfl]
    rfl
   ·rw [if_neg h1]
    by_cases h2 : (rd_T45 l i).f0 > 1000000000
    ·rw [decide_eq_true h2, hjt, show win (rd_T45 l i).f0 0 1000000000 = false from by unfold win; rw [show decide ((rd_T45 l i).f0 ≤ 1000000000) = false from decide_eq_false zq17, Bool.and_false]]
     rfl
    ·rw [decide_eq_false h2, hj1, show win (rd_T45 l i).f0 0 1000000000 = true from by unfold win; rw [show decide (0 ≤ (rd_T45 l i).f0) = true from decide_eq_true zq17, show decide ((rd_T45 l i).f0 ≤ 1000000000) = true from decide_eq_true zq17]; rfl, if_neg (show ¬ true = false by decide), hre2]
  ·rw [if_pos hk12, if_neg (fun h => hk12 (.inl h)), if_neg (fun h => hk12 (.inr h)), hjt]
   rfl
theorem rLog_eq (a0 : Int) (fl : List S58) (st : List S56) (l : List S45) (k : Nat) (hk : 2000 ≤ k) : culletref07_CheckLog.f k a0 fl st l = some (logS a0 fl st l) := by
 unfold culletref07_CheckLog.f logS
 rw [rCheck_eq a0 fl st k zq17, Option.bind_some]
 by_cases h0 : chkS a0 fl st = 0
 ·rw [if_pos h0, if_pos h0]
  by_cases h : 512 < l.length
  ·rw [if_pos zq17, if_pos h]
  ·rw [if_neg zq17, if_neg h]
   exact rLog_l0 a0 fl st l (chkS_claims h0) zq17 l.length 0 k zq17 zq17
 ·rw [if_neg h0, if_neg h0]
def isCh (l : List S45) (s c : Int) (n : Nat) : Prop := (l.getD n z45).f1 = 2 ∧ (l.getD n z45).f4 = s ∧ (l.getD n z45).f5 = c
instance (l : List S45) (s c : Int) (n : Nat) : Decidable (isCh l s c n) := by unfold isCh; infer_instance
def befN (l : List S45) (s c e : Int) : Nat → Int
 | 0 => -1
 | n + 1 => if isCh l s c n then (if (n : Int) < e then (n : Int) else befN l s c e n) else befN l s c e n
def behN (l : List S45) (s c e : Int) : Nat → Int
 | 0 => -1
 | n + 1 => if isCh l s c n then (if (n : Int) < e then behN l s c e n else if behN l s c e n < 0 then (n : Int) else behN l s c e n) else behN l s c e n
theorem chP_succ (l : List S45) (s c : Int) (n : Nat) : chP l s c (n + 1) = if isCh l s c n then chP l s c n ++ [(n : Int)] else chP l s c n := by
 show (if (l.getD n z45).f1 = 2 ∧ (l.getD n z45).f4 = s ∧ (l.getD n z45).f5 = c then chP l s c n ++ [(n : Int)] else chP l s c n) = _
 by_cases h : isCh l s c n
 ·rw [if_pos h]; exact if_pos h
 ·rw [if_neg h]; exact if_neg h
theorem nxt_app (L : List Int) (x : Int) (m : Int) (h : m < L.length) : nxt (L ++ [x]) m = nxt L m := by
 unfold nxt rd
 by_cases h0 : m < 0
 ·rw [if_pos (.inl h0), if_pos (.inl h0)]
 ·rw [if_neg (by simp; omega), if_neg zq17, List.getD_eq_getElem?_getD, List.getElem?_append_left zq17, ← List.getD_eq_getElem?_getD]
theorem nxt_end (L : List Int) (m : Int) (h : m = L.length) : nxt L m = -1 := by
 unfold nxt
 rw [if_pos zq17]
theorem nxt_last (L : List Int) (x m : Int) (h : m = L.length) : nxt (L ++ [x]) m = x := by
 unfold nxt rd
 rw [if_neg (by simp; omega), h, Int.toNat_natCast, List.getD_eq_getElem?_getD, List.getElem?_append_right (Nat.le_refl _)]
 simp
theorem nxt_mem (L : List Int) (m : Int) (h0 : 0 ≤ m) (h1 : m < L.length) : nxt L m ∈ L := by
 unfold nxt rd
 rw [if_neg zq17, List.getD_eq_getElem?_getD, List.getElem?_eq_getElem zq17]
 simp
theorem scan (l : List S45) (s c e : Int) : ∀ n, befN l s c e n = nxt (chP l s c n) ((chP l s c n).countP (· < e) + -1) ∧ behN l s c e n = nxt (chP l s c n) ((chP l s c n).countP (· < e) + 0)
 | 0 => by simp [befN, behN, chP, nxt]
 | n + 1 => by
  obtain ⟨h1, h2⟩ := scan l s c e n
  have hm := chP_mem l s c n
  have hle : (chP l s c n).countP (· < e) ≤ (chP l s c n).length := List.countP_le_length
  rw [chP_succ]
  unfold befN behN
  by_cases hc : isCh l s c n
  ·rw [if_pos hc, if_pos hc, if_pos hc]
   by_cases he : (n : Int) < e
   ·have hall : (chP l s c n).countP (· < e) = (chP l s c n).length := by
     rw [List.countP_eq_length]
     intro x hx
     have := hm x hx
     simp; omega
    rw [if_pos he, if_pos he, List.countP_append, hall]
    have h3 : List.countP (· < e) [(n : Int)] = 1 := by simp [he]
    rw [h3]
    refine ⟨(nxt_last _ _ _ zq17).symm, ?_⟩
    rw [h2, hall, nxt_end _ _ zq81, nxt_end _ _ zq81]
   ·rw [if_neg he, if_neg he, List.countP_append]
    have h3 : List.countP (· < e) [(n : Int)] = 0 := by simp; omega
    rw [h3, Nat.add_zero, nxt_app _ _ _ zq17, ← h1]
    refine ⟨rfl, ?_⟩
    by_cases hlt : (chP l s c n).countP (· < e) < (chP l s c n).length
    ·rw [nxt_app _ _ _ zq17, ← h2, if_neg]
     have := hm _ (nxt_mem (chP l s c n) ((chP l s c n).countP (· < e) + 0) zq17 zq17)
     rw [h2]
     omega
    ·rw [nxt_last _ _ _ zq17, if_pos]
     rw [h2, nxt_end _ _ zq17]
     decide
  ·rw [if_neg hc, if_neg hc, if_neg hc]
   exact ⟨h1, h2⟩
theorem befN_lo (l : List S45) (s c e : Int) : ∀ n, -1 ≤ befN l s c e n ∧ befN l s c e n < n
 | 0 => by simp [befN]
 | n + 1 => by
  have := befN_lo l s c e n
  unfold befN
  split
  ·split <;> omega
  ·omega
theorem behN_lo (l : List S45) (s c e : Int) : ∀ n, -1 ≤ behN l s c e n ∧ behN l s c e n < n
 | 0 => by simp [behN]
 | n + 1 => by
  have := behN_lo l s c e n
  unfold behN
  split
  ·split
   ·omega
   ·split <;> omega
  ·omega
theorem rtrust_j2 {every : Int} {fl : List S58} {st : List S56} {l : List S45} (hv : Valid every fl st l) (p q : Int) (hp : 0 ≤ p ∧ p < l.length) (hq : q < l.length) (k : Nat) (hk : 1 ≤ k) : culletref07_trusted.j2 k l p q (!(rd_T45 l p).f6) every fl st = some (trustP every l p q) := by
 obtain ⟨k, rfl⟩ : ∃ m, k = m + 1 := ⟨k - 1, zq17⟩
 rw [culletref07_trusted.j2]
 unfold trustP
 rw [if_neg (show ¬ p < 0 by omega)]
 have hlen := hv.len
 have tp : 0 ≤ (rd_T45 l p).f0 ∧ (rd_T45 l p).f0 ≤ 1000000000 := hv.times p.toNat
 cases hf : (rd_T45 l p).f6
 ·rfl
 ·rw [if_neg (show ¬ (!true) = true by decide), if_neg (show ¬ true = false by decide)]
  by_cases h2 : q < 0
  ·rw [if_pos h2, if_pos h2, wpred _ zq17, if_pos zq17, if_pos zq17, if_pos hp.1, if_pos hp.2]
   have tm : 0 ≤ (rd_T45 l ((l.length : Int) - 1)).f0 ∧ (rd_T45 l ((l.length : Int) - 1)).f0 ≤ 1000000000 := hv.times ((l.length : Int) - 1).toNat
   rw [show wrap64 ((rd_T45 l ((l.length : Int) - 1)).f0 - (rd_T45 l p).f0) = (rd_T45 l ((l.length : Int) - 1)).f0 - (rd_T45 l p).f0 from by unfold wrap64; omega]
   split <;> rfl
  ·rw [if_neg h2, if_neg h2, if_pos zq17, if_pos hq]
   have tq : 0 ≤ (rd_T45 l q).f0 ∧ (rd_T45 l q).f0 ≤ 1000000000 := hv.times q.toNat
   cases hg : (rd_T45 l q).f6
   ·rfl
   ·rw [if_pos rfl, if_neg (show ¬ true = false by decide), if_pos hp.1, if_pos hp.2]
    rw [show wrap64 ((rd_T45 l q).f0 - (rd_T45 l p).f0) = (rd_T45 l q).f0 - (rd_T45 l p).f0 from by unfold wrap64; omega]
    split <;> rfl
theorem rtrust_l0 {every : Int} {fl : List S58} {st : List S56} {l : List S45} (hv : Valid every fl st l) (s c e : Int) : ∀ r i k, i + r = l.length → 2 * r + 2 < k → culletref07_trusted.l0 k l s c e (befN l s c e i) (behN l s c e i) (i : Int) every fl st = some (trustP every l (befN l s c e l.length) (behN l s c e l.length))
 | 0, i, k, h, hk => by
  obtain ⟨k, rfl⟩ : ∃ m, k = m + 1 := ⟨k - 1, zq17⟩
  have hi : i = l.length := by omega
  subst hi
  have h1 := befN_lo l s c e l.length
  have h2 := behN_lo l s c e l.length
  rw [culletref07_trusted.l0, if_neg zq17]
  by_cases hb : befN l s c e l.length < 0
  ·obtain ⟨k, rfl⟩ : ∃ m, k = m + 1 := ⟨k - 1, zq17⟩
   rw [if_pos hb, culletref07_trusted.j2, if_pos rfl]
   unfold trustP
   rw [if_pos hb]
  ·rw [if_neg hb, if_pos zq17, if_pos zq17]
   exact rtrust_j2 hv _ _ ⟨zq17, zq17⟩ zq17 k zq17
 | r + 1, i, k, h, hk => by
  obtain ⟨k, rfl⟩ : ∃ m, k = m + 1 + 1 := ⟨k - 2, zq17⟩
  have ih := rtrust_l0 hv s c e r (i + 1) k zq17 zq17
  have hlen := hv.len
  rw [culletref07_trusted.l0, if_pos zq17, if_pos zq17]
  have hnot : ¬ isCh l s c i → culletref07_trusted.j1 (k + 1) l s c e (befN l s c e i) (behN l s c e i) (i : Int) true every fl st = some (trustP every l (befN l s c e l.length) (behN l s c e l.length)) := fun hn => by
   rw [culletref07_trusted.j1, if_pos rfl, wsucc i zq17]
   rw [show befN l s c e (i + 1) = befN l s c e i from if_neg hn, show behN l s c e (i + 1) = behN l s c e i from if_neg hn] at ih
   exact ih
  by_cases h1 : (rd_T45 l (i : Int)).f1 = 2
  ·rw [if_pos h1]
   by_cases h2 : (rd_T45 l (i : Int)).f4 = s
   ·rw [if_pos h2]
    by_cases h3 : (rd_T45 l (i : Int)).f5 = c
    ·have hc : isCh l s c i := ⟨h1, h2, h3⟩
     have e1 : befN l s c e (i + 1) = if (i : Int) < e then (i : Int) else befN l s c e i := if_pos hc
     have e2 : behN l s c e (i + 1) = if (i : Int) < e then behN l s c e i else if behN l s c e i < 0 then (i : Int) else behN l s c e i := if_pos hc
     rw [e1, e2] at ih
     rw [show ((rd_T45 l (i : Int)).f5 != c) = false from by simp [h3], culletref07_trusted.j1, if_neg zq53, wsucc i zq17]
     by_cases h4 : (i : Int) < e
     ·rw [if_pos h4, if_pos h4] at ih
      rw [if_pos h4]
      exact ih
     ·rw [if_neg h4, if_neg h4] at ih
      rw [if_neg h4]
      by_cases h5 : behN l s c e i < 0
      ·rw [if_pos h5] at ih
       rw [if_pos h5]
       exact ih
      ·rw [if_neg h5] at ih
       rw [if_neg h5]
       exact ih
    ·rw [show ((rd_T45 l (i : Int)).f5 != c) = true from by simp [h3]]
     exact hnot (fun hc => h3 hc.2.2)
   ·rw [if_neg h2]
    exact hnot (fun hc => h2 hc.2.1)
  ·rw [if_neg h1]
   exact hnot (fun hc => h1 hc.1)
theorem rtrust_eq {every : Int} {fl : List S58} {st : List S56} {l : List S45} (hv : Valid every fl st l) (hL : ∀ i, i < st.length → (rd_T56 st (i : Nat)).f1.length ≤ 8) (s c e : Int) (h0 : 0 ≤ s) (h1 : s < st.length) (k : Nat) (hk : 1100 ≤ k) : culletref07_trusted.f k every fl st l s c e = some (trU every st l s c e) := by
 have hl := hL s.toNat zq17
 rw [show ((s.toNat : Nat) : Int) = s from by omega] at hl
 have hlen := hv.len
 unfold culletref07_trusted.f trU trustS
 rw [rclaim_eq every fl st s c h0 h1 hl k zq17, Option.bind_some, clmR_b]
 cases clmB st s c
 ·rfl
 ·rw [if_pos rfl, if_neg zq53, ← (scan l s c e l.length).1, ← (scan l s c e l.length).2]
  exact rtrust_l0 hv s c e l.length 0 k zq17 zq17
end Go.Proofs.Ytbpebehbfpgjbaa.P
end
section
namespace Go.Proofs.Ytbpebehbfpgjbaa.P
open Go.RowKit Go.Proofs.YtbpebehbfpgjbaaW.PrintWords Go.Proofs.YtbpebehbfpgjbaaW.PrintLast Go.Proofs.YtbpebehbfpgjbaaW.PrintMore
attribute [local go_sem] max2_int min2_int max_two min_two max_three min_three max_four min_four
set_option linter.unusedVariables false
set_option linter.unusedSimpArgs false
def culletref07_bottle.j0 : Nat → List (S45) → Int → Bool → Option (Int)
 | 0, _, _, _ => none
 | k + 1, x0, x1, x12 => if x12 = true then (some 7) else (if 0 ≤ x1 then (if x1 < (x0.length : Int) then (if ((rd_T45 x0 x1).f1) = 1 then (some 0) else (some 1)) else (none)) else (none))
def culletref07_bottle.f (k : Nat) (l0 : List (S45)) (a1 : Int) : Option (Int) := if a1 < 0 then (culletref07_bottle.j0 k l0 a1 true) else (culletref07_bottle.j0 k l0 a1 (decide (a1 ≥ (l0.length : Int))))
set_option maxHeartbeats 8000000 in
set_option maxRecDepth 100000 in
theorem culletref07_bottle.calls (k : Nat) (A0 : Option Addr) (c0 : Nat) (l0 : List (S45)) (a1 : Int) (r : Int) (w : World) (hr0 : Kd.C k45 w A0 l0.length l0) (hc0 : l0.length ≤ c0) (h : culletref07_bottle.f k l0 a1 = some r) :
  Calls Try.prog 57 #[.slice A0 l0.length c0, .int .i64 a1] w fun e w' => e = .returned (.int .i64 r) ∧ Drawn0 w w' := by
 have HR0 := Aside0.mk hr0
 have HC0 := Aside0.mk hc0
 clear hr0 hc0
 have H : (if a1 < 0 then (culletref07_bottle.j0 k l0 a1 true) else (culletref07_bottle.j0 k l0 a1 (decide (a1 ≥ (l0.length : Int))))) = some r := h
 clear h
 have HC3 := Aside0.mk H
 clear H
 go_enter Try.func57, Try.ntmps57
 go_upto_region 1 with (fail)
 go_cut [12] (fun v12 wc => ∃ (kq : Nat) (x12_2 : Bool), v12 = .bool x12_2 ∧ Aside0 (culletref07_bottle.j0 kq l0 a1 x12_2 = some r) ∧ Aside0 (kq ≤ k) ∧ Drawn0 w wc)
 case first =>
  have H := HC3.out
  clear HC3
  by_cases c4 : a1 < 0
  ·rw [if_pos c4] at H
   have c4b0 : decide (a1 < 0) = true := decide_eq_true c4
   clear c4
   (first | rw [c4b0] | (simp only [i64_w, i32_w]; rw [c4b0]) | skip)
   have H' := Aside0.mk H
   clear H
   go_wp2
   go_meet
   case rel => exact ⟨_, (true), zq8, H', ⟨zq41⟩, zq34⟩
  ·rw [if_neg c4] at H
   have c4b0 : decide (a1 < 0) = false := decide_eq_false c4
   clear c4
   (first | rw [c4b0] | (simp only [i64_w, i32_w]; rw [c4b0]) | skip)
   have H' := Aside0.mk H
   clear H
   go_wp2
   go_meet
   case rel => exact ⟨_, (decide (a1 ≥ (l0.length : Int))), zq8, H', ⟨zq41⟩, zq34⟩
 case rest =>
  clear HC3
  try clear p2
  try clear c4
  try clear c4b0
  obtain ⟨kq, x12_2, rfl, HA, HJ2, ⟨mc2, rfl⟩⟩ := hcut
  cases kq with
  | zero => exact absurd HA.out (by simp [culletref07_bottle.j0])
  | succ kj2 =>
   have H := HA.out
   clear HA
   simp only [culletref07_bottle.j0] at H
   by_cases c5 : x12_2 = true
   ·subst c5
    have H1 : (some 7) = some r := by rw [if_pos rfl] at H; exact H
    clear H
    have H := H1
    clear H1
    obtain rfl := Option.some.inj H
    go_wp2
    go_ret
    exact ⟨zq8, zq34⟩
   ·replace c5 := Bool.eq_false_iff.mpr c5
    subst c5
    have H1 : (if 0 ≤ a1 then (if a1 < (l0.length : Int) then (if ((rd_T45 l0 a1).f1) = 1 then (some 0) else (some 1)) else (none)) else (none)) = some r := by rw [if_neg (show ¬ (false = true) by decide)] at H; exact H
    clear H
    have H := H1
    clear H1
    by_cases c6 : 0 ≤ a1
    ·rw [if_pos c6] at H
     have c6b0 : decide (0 ≤ a1) = true := decide_eq_true c6
     clear c6
     by_cases c7 : a1 < (l0.length : Int)
     ·rw [if_pos c7] at H
      have c7b0 : decide (a1 < (l0.length : Int)) = true := decide_eq_true c7
      clear c7
      by_cases c8 : ((rd_T45 l0 a1).f1) = 1
      ·rw [if_pos c8] at H
       have c8b0 : (((rd_T45 l0 a1).f1) == 1) = true := beq_iff_eq.mpr c8
       have c8b1 : (((rd_T45 l0 a1).f1) != 1) = false := bne_eq_false_iff_eq.mpr c8
       clear c8
       obtain rfl := Option.some.inj H
       have p534 : 0 ≤ (a1 : Int) := of_decide_eq_true zq6
       have q534 : a1 < (l0.length : Int) := of_decide_eq_true zq6
       obtain ⟨ad534, e534, hx534_0, hx534_1, hx534_2, hx534_3, hx534_4, hx534_5, hx534_6⟩ := at_T45 HR0.out a1 p534 q534
       cases e534
       replace p534 := eq_true p534
       replace q534 := eq_true q534
       go_wp2
       go_ret
       exact ⟨zq8, zq34⟩
      ·rw [if_neg c8] at H
       have c8b0 : (((rd_T45 l0 a1).f1) == 1) = false := beq_eq_false_iff_ne.mpr c8
       have c8b1 : (((rd_T45 l0 a1).f1) != 1) = true := bne_iff_ne.mpr c8
       obtain rfl := Option.some.inj H
       have p534 : 0 ≤ (a1 : Int) := of_decide_eq_true zq6
       have q534 : a1 < (l0.length : Int) := of_decide_eq_true zq6
       obtain ⟨ad534, e534, hx534_0, hx534_1, hx534_2, hx534_3, hx534_4, hx534_5, hx534_6⟩ := at_T45 HR0.out a1 p534 q534
       cases e534
       replace p534 := eq_true p534
       replace q534 := eq_true q534
       go_wp2
       go_ret
       exact ⟨zq8, zq34⟩
     ·rw [if_neg c7] at H
      exact absurd H zq81
    ·rw [if_neg c6] at H
     exact absurd H zq81
mutual
def culletref07_Trusted.j0 : Nat → List (S45) → Int → Int → Int → Int → Bool → Int → List (S58) → List (S56) → Option (Int × Int)
 | 0, _, _, _, _, _, _, _, _, _ => none
 | k + 1, x1, x2, x3, x4, x12, x39, x536000, x536001, x536002 => if x39 = true then (culletref07_Trusted.j1 k x1 x2 x3 x4 7 x536000 x536001 x536002) else (culletref07_Trusted.j1 k x1 x2 x3 x4 x12 x536000 x536001 x536002)
def culletref07_Trusted.j1 : Nat → List (S45) → Int → Int → Int → Int → Int → List (S58) → List (S56) → Option (Int × Int)
 | 0, _, _, _, _, _, _, _, _ => none
 | k + 1, x1, x2, x3, x4, x12, x536000, x536001, x536002 => if x12 = 0 then ((culletref07_bottle.f k x1 x4).bind fun t537 => (if t537 = 0 then ((culletref07_trusted.f k x536000 x536001 x536002 x1 x2 x3 x4).bind fun t538 => (some (t538, 0))) else (some (0, t537)))) else (some (0, x12))
end
def culletref07_Trusted.f (k : Nat) (a0_0 : Int) (l0_1 : List (S58)) (l0_2 : List (S56)) (l1 : List (S45)) (a2 : Int) (a3 : Int) (a4 : Int) : Option (Int × Int) := (culletref07_CheckLog.f k a0_0 l0_1 l0_2 l1).bind fun t536 => (if t536 = 0 then (if a2 < 0 then (culletref07_Trusted.j0 k l1 a2 a3 a4 t536 true a0_0 l0_1 l0_2) else (if a2 ≥ (l0_2.length : Int) then (culletref07_Trusted.j0 k l1 a2 a3 a4 t536 true a0_0 l0_1 l0_2) else (if a3 < 0 then (culletref07_Trusted.j0 k l1 a2 a3 a4 t536 true a0_0 l0_1 l0_2) else (culletref07_Trusted.j0 k l1 a2 a3 a4 t536 (decide (a3 ≥ (l0_1.length : Int))) a0_0 l0_1 l0_2)))) else (culletref07_Trusted.j0 k l1 a2 a3 a4 t536 false a0_0 l0_1 l0_2))
set_option maxHeartbeats 8000000 in
set_option maxRecDepth 100000 in
theorem culletref07_Trusted.calls (k : Nat) (a0_0 : Int) (A0_1 : Option Addr) (c0_1 : Nat) (l0_1 : List (S58)) (A0_2 : Option Addr) (c0_2 : Nat) (l0_2 : List (S56)) (A1 : Option Addr) (c1 : Nat) (l1 : List (S45)) (a2 : Int) (a3 : Int) (a4 : Int) (r1 : Int) (r2 : Int) (w : World) (hr0_1 : Kd.C k58 w A0_1 l0_1.length l0_1) (hc0_1 : l0_1.length ≤ c0_1) (hr0_2 : Kd.C k56 w A0_2 l0_2.length l0_2) (hc0_2 : l0_2.length ≤ c0_2) (hr1 : Kd.C k45 w A1 l1.length l1) (hc1 : l1.length ≤ c1) (h : culletref07_Trusted.f k a0_0 l0_1 l0_2 l1 a2 a3 a4 = some (r1, r2)) :
  Calls Try.prog 26 #[.agg #[.int .i64 a0_0, .slice A0_1 l0_1.length c0_1, .slice A0_2 l0_2.length c0_2], .slice A1 l1.length c1, .int .i64 a2, .int .i64 a3, .int .i64 a4] w fun e w' => e = .returned (.tuple #[.int .u8 r1, .int .i64 r2]) ∧ Below w.heap.size w w' := by
 have hu25 := Try.underlying25
 have HR0_1 := Aside0.mk hr0_1
 have HC0_1 := Aside0.mk hc0_1
 clear hr0_1 hc0_1
 have HR0_2 := Aside0.mk hr0_2
 have HC0_2 := Aside0.mk hc0_2
 clear hr0_2 hc0_2
 have HR1 := Aside0.mk hr1
 have HC1 := Aside0.mk hc1
 clear hr1 hc1
 have HB := Aside0.mk (Below.refl w.heap.size w)
 have H : ((culletref07_CheckLog.f k a0_0 l0_1 l0_2 l1).bind fun t536 => (if t536 = 0 then (if a2 < 0 then (culletref07_Trusted.j0 k l1 a2 a3 a4 t536 true a0_0 l0_1 l0_2) else (if a2 ≥ (l0_2.length : Int) then (culletref07_Trusted.j0 k l1 a2 a3 a4 t536 true a0_0 l0_1 l0_2) else (if a3 < 0 then (culletref07_Trusted.j0 k l1 a2 a3 a4 t536 true a0_0 l0_1 l0_2) else (culletref07_Trusted.j0 k l1 a2 a3 a4 t536 (decide (a3 ≥ (l0_1.length : Int))) a0_0 l0_1 l0_2)))) else (culletref07_Trusted.j0 k l1 a2 a3 a4 t536 false a0_0 l0_1 l0_2))) = some (r1, r2) := h
 clear h
 replace H := Option.bind_eq_some_iff.mp H
 obtain ⟨t536, A60, H⟩ := H
 replace H : (if t536 = 0 then (if a2 < 0 then (culletref07_Trusted.j0 k l1 a2 a3 a4 t536 true a0_0 l0_1 l0_2) else (if a2 ≥ (l0_2.length : Int) then (culletref07_Trusted.j0 k l1 a2 a3 a4 t536 true a0_0 l0_1 l0_2) else (if a3 < 0 then (culletref07_Trusted.j0 k l1 a2 a3 a4 t536 true a0_0 l0_1 l0_2) else (culletref07_Trusted.j0 k l1 a2 a3 a4 t536 (decide (a3 ≥ (l0_1.length : Int))) a0_0 l0_1 l0_2)))) else (culletref07_Trusted.j0 k l1 a2 a3 a4 t536 false a0_0 l0_1 l0_2)) = some (r1, r2) := H
 have A6 := Aside0.mk A60
 clear A60
 have HC7 := Aside0.mk H
 clear H
 go_enter Try.func26, Try.ntmps26
 go_upto_region 2 with (first | ((with_reducible refine gate_dst (N := 5) rfl ?_); (try (refine gate_guard zq58 ?_; dsimp only)); refine box_event ?hg (N := 5) ?hd (cs := #[.int .i64 a0_0, .slice A0_1 l0_1.length c0_1, .slice A0_2 l0_2.length c0_2]) (t := 25) ?hr ?_; (case hd => rfl); (case hg => rfl); (case hr => exact zq9); intro gb535 hg w8 hbox hb; have n_ := as4 (below_step zq2 hb) (hbox) ((zq29 : w.heap.size ≤ gb535)) ((zq29 : w.heap.size ≤ gb535)); clear HB hb hbox hg; obtain ⟨HB, BK535, GW535, GE535⟩ := n_; obtain ⟨hcz9_0, hcz9_1, hcz9_2, hfz9_0, hfz9_1, hfz9_2⟩ := bcs3 BK535.out) | ((with_reducible refine gate_callee (f := 34) rfl ?_); refine goesL_ (some 15) rfl rfl Try.func34 zq32 rfl #[.agg #[.int .i64 a0_0, .slice A0_1 l0_1.length c0_1, .slice A0_2 l0_2.length c0_2], .slice A1 l1.length c1] rfl zq3 ?_; (with_reducible refine (culletref07_CheckLog.calls k a0_0 _ _ l0_1 _ _ l0_2 _ _ l1 t536 _ ?side1 ?side2 ?side3 ?side4 ?side5 ?side6 A6.out).mono ?_); (case side1 => exact zq4); (case side2 => exact HC0_1.out); (case side3 => exact zq5); (case side4 => exact HC0_2.out); (case side5 => exact zq12); (case side6 => exact HC1.out); rintro e w10 ⟨rfl, hb⟩; refine ⟨_, rfl, ?_⟩; have n_ := as2 (blk_below (zq0 BK535.out) hb) (below_step zq36 hb); clear BK535 HB; obtain ⟨BK535, HB⟩ := n_; (try clear hb); (try clear hb2); (try clear hk); (try clear hi)))
 (try simp only [Act.put, List.setIfInBounds_toArray, List.set_cons_zero, List.set_cons_succ])
 go_cut [39] (fun v39 wc => ∃ (kq : Nat) (x39_6 : Bool), v39 = .bool x39_6 ∧ Aside0 (culletref07_Trusted.j0 kq l1 a2 a3 a4 t536 x39_6 a0_0 l0_1 l0_2 = some (r1, r2)) ∧ Aside0 (kq ≤ k) ∧ Aside0 (wc.heap[gb535]? = some (.cells #[.int .i64 a0_0, (.slice A0_1 l0_1.length c0_1), (.slice A0_2 l0_2.length c0_2)] 25 (0, 0))) ∧ Aside0 (Below w.heap.size w wc))
 case first =>
  have H := HC7.out
  clear HC7
  by_cases c11 : t536 = 0
  ·rw [if_pos c11] at H
   have c11b0 : (t536 == 0) = true := beq_iff_eq.mpr c11
   have c11b1 : (t536 != 0) = false := bne_eq_false_iff_eq.mpr c11
   clear c11
   (first | rw [c11b0] | (simp only [i64_w, i32_w]; rw [c11b0]) | skip)
   by_cases c12 : a2 < 0
   ·rw [if_pos c12] at H
    have c12b0 : decide (a2 < 0) = true := decide_eq_true c12
    clear c12
    have H' := Aside0.mk H
    clear H
    go_wp2
    go_meet
    case rel => exact ⟨_, (true), zq8, H', ⟨zq41⟩, ⟨(zq0 BK535.out)⟩, ⟨zq36⟩⟩
   ·rw [if_neg c12] at H
    have c12b0 : decide (a2 < 0) = false := decide_eq_false c12
    clear c12
    by_cases c13 : a2 ≥ (l0_2.length : Int)
    ·rw [if_pos c13] at H
     have c13b0 : decide ((l0_2.length : Int) ≤ a2) = true := decide_eq_true c13
     clear c13
     have H' := Aside0.mk H
     clear H
     obtain ⟨hcz14_0, hcz14_1, hcz14_2, hfz14_0, hfz14_1, hfz14_2⟩ := bcs3 BK535.out
     go_wp2
     go_meet
     case rel => exact ⟨_, (true), zq8, H', ⟨zq41⟩, ⟨(zq0 BK535.out)⟩, ⟨zq36⟩⟩
    ·rw [if_neg c13] at H
     have c13b0 : decide ((l0_2.length : Int) ≤ a2) = false := decide_eq_false c13
     clear c13
     by_cases c15 : a3 < 0
     ·rw [if_pos c15] at H
      have c15b0 : decide (a3 < 0) = true := decide_eq_true c15
      clear c15
      have H' := Aside0.mk H
      clear H
      obtain ⟨hcz16_0, hcz16_1, hcz16_2, hfz16_0, hfz16_1, hfz16_2⟩ := bcs3 BK535.out
      go_wp2
      go_meet
      case rel => exact ⟨_, (true), zq8, H', ⟨zq41⟩, ⟨(zq0 BK535.out)⟩, ⟨zq36⟩⟩
     ·rw [if_neg c15] at H
      have c15b0 : decide (a3 < 0) = false := decide_eq_false c15
      clear c15
      have H' := Aside0.mk H
      clear H
      obtain ⟨hcz17_0, hcz17_1, hcz17_2, hfz17_0, hfz17_1, hfz17_2⟩ := bcs3 BK535.out
      go_wp2
      go_meet
      case rel => exact ⟨_, (decide (a3 ≥ (l0_1.length : Int))), zq8, H', ⟨zq41⟩, ⟨(zq0 BK535.out)⟩, ⟨zq36⟩⟩
  ·rw [if_neg c11] at H
   have c11b0 : (t536 == 0) = false := beq_eq_false_iff_ne.mpr c11
   have c11b1 : (t536 != 0) = true := bne_iff_ne.mpr c11
   (first | rw [c11b0] | (simp only [i64_w, i32_w]; rw [c11b0]) | skip)
   have H' := Aside0.mk H
   clear H
   go_wp2
   go_meet
   case rel => exact ⟨_, (false), zq8, H', ⟨zq41⟩, ⟨(zq0 BK535.out)⟩, ⟨zq36⟩⟩
 case rest =>
  clear HC7
  try clear c1
  try clear c2
  try clear p2
  try clear c3
  try clear c11
  try clear c11b0
  try clear c11b1
  try clear c12
  try clear c12b0
  try clear c13
  try clear c13b0
  try clear c15
  try clear c15b0
  try clear hcz14_0 hcz14_1 hcz14_2 hfz14_0 hfz14_1 hfz14_2
  try clear hcz16_0 hcz16_1 hcz16_2 hfz16_0 hfz16_1 hfz16_2
  try clear hcz17_0 hcz17_1 hcz17_2 hfz17_0 hfz17_1 hfz17_2
  try clear hcz9_0 hcz9_1 hcz9_2 hfz9_0 hfz9_1 hfz9_2
  obtain ⟨kq, x39_6, rfl, HA, HJ6, BK535, HB⟩ := hcut
  cases kq with
  | zero => exact absurd HA.out (by simp [culletref07_Trusted.j0])
  | succ kj6 =>
   have H := HA.out
   clear HA
   simp only [culletref07_Trusted.j0] at H
   have HC18 := Aside0.mk H
   clear H
   go_upto_if 39 with (fail)
   go_cut [12] (fun v12 wc => ∃ (kq : Nat) (x12_17 : Int), v12 = .int .i64 x12_17 ∧ Aside0 (culletref07_Trusted.j1 kq l1 a2 a3 a4 x12_17 a0_0 l0_1 l0_2 = some (r1, r2)) ∧ Aside0 (kq ≤ kj6) ∧ Aside0 (wc.heap[gb535]? = some (.cells #[.int .i64 a0_0, (.slice A0_1 l0_1.length c0_1), (.slice A0_2 l0_2.length c0_2)] 25 (0, 0))) ∧ Aside0 (Below w.heap.size w wc))
   case first =>
    have H := HC18.out
    clear HC18
    by_cases c19 : x39_6 = true
    ·subst c19
     have H1 : (culletref07_Trusted.j1 kj6 l1 a2 a3 a4 7 a0_0 l0_1 l0_2) = some (r1, r2) := by rw [if_pos rfl] at H; exact H
     clear H
     have H := H1
     clear H1
     have H' := Aside0.mk H
     clear H
     go_wp2
     go_meet
     case rel => exact ⟨_, (7), zq8, H', ⟨by have := HJ6.out; first | omega | exact Nat.le_refl _⟩, ⟨(zq0 BK535.out)⟩, ⟨zq36⟩⟩
    ·replace c19 := Bool.eq_false_iff.mpr c19
     subst c19
     have H1 : (culletref07_Trusted.j1 kj6 l1 a2 a3 a4 t536 a0_0 l0_1 l0_2) = some (r1, r2) := by rw [if_neg (show ¬ (false = true) by decide)] at H; exact H
     clear H
     have H := H1
     clear H1
     have H' := Aside0.mk H
     clear H
     go_wp2
     go_meet
     case rel => exact ⟨_, (t536), zq8, H', ⟨by have := HJ6.out; first | omega | exact Nat.le_refl _⟩, ⟨(zq0 BK535.out)⟩, ⟨zq36⟩⟩
   case rest =>
    clear HC18
    try clear c1
    try clear c2
    try clear p2 p2
    try clear c3
    try clear c11
    try clear c11b0
    try clear c11b1
    try clear c12
    try clear c12b0
    try clear c13
    try clear c13b0
    try clear c15
    try clear c15b0
    try clear c19
    try clear hcz14_0 hcz14_1 hcz14_2 hfz14_0 hfz14_1 hfz14_2
    try clear hcz16_0 hcz16_1 hcz16_2 hfz16_0 hfz16_1 hfz16_2
    try clear hcz17_0 hcz17_1 hcz17_2 hfz17_0 hfz17_1 hfz17_2
    try clear hcz9_0 hcz9_1 hcz9_2 hfz9_0 hfz9_1 hfz9_2
    obtain ⟨kq, x12_17, rfl, HA, HJ17, BK535, HB⟩ := hcut
    cases kq with
    | zero => exact absurd HA.out (by simp [culletref07_Trusted.j1])
    | succ kj17 =>
     have H := HA.out
     clear HA
     simp only [culletref07_Trusted.j1] at H
     by_cases c20 : x12_17 = 0
     ·rw [if_pos c20] at H
      have c20b0 : (x12_17 == 0) = true := beq_iff_eq.mpr c20
      have c20b1 : (x12_17 != 0) = false := bne_eq_false_iff_eq.mpr c20
      clear c20
      replace H := Option.bind_eq_some_iff.mp H
      obtain ⟨t537, A210, H⟩ := H
      replace H : (if t537 = 0 then ((culletref07_trusted.f kj17 a0_0 l0_1 l0_2 l1 a2 a3 a4).bind fun t538 => (some (t538, 0))) else (some (0, t537))) = some (r1, r2) := H
      have A21 := Aside0.mk A210
      clear A210
      by_cases c22 : t537 = 0
      ·rw [if_pos c22] at H
       have c22b0 : (t537 == 0) = true := beq_iff_eq.mpr c22
       have c22b1 : (t537 != 0) = false := bne_eq_false_iff_eq.mpr c22
       clear c22
       replace H := Option.bind_eq_some_iff.mp H
       obtain ⟨t538, A230, H⟩ := H
       replace H : (some (t538, 0)) = some (r1, r2) := H
       have A23 := Aside0.mk A230
       clear A230
       simp only [Option.some.injEq, Prod.mk.injEq] at H
       obtain ⟨rfl, rfl⟩ := H
       go_wp2_with (first | ((with_reducible refine gate_callee (f := 57) rfl ?_); refine goesL_ (some 44) rfl rfl Try.func57 zq32 rfl #[.slice A1 l1.length c1, .int .i64 a4] rfl zq3 ?_; (with_reducible refine (culletref07_bottle.calls kj17 _ _ l1 a4 t537 _ ?side1 ?side2 A21.out).mono ?_); (case side1 => exact zq12); (case side2 => exact HC1.out); rintro e w' ⟨rfl, ⟨nd, rfl⟩⟩; refine ⟨_, rfl, ?_⟩; obtain ⟨hcz24_0, hcz24_1, hcz24_2, hfz24_0, hfz24_1, hfz24_2⟩ := bcs3 BK535.out) | ((with_reducible refine gate_callee (f := 41) rfl ?_); refine goesL_ (some 53) rfl rfl Try.func41 zq32 rfl #[.agg #[.int .i64 a0_0, .slice A0_1 l0_1.length c0_1, .slice A0_2 l0_2.length c0_2], .slice A1 l1.length c1, .int .i64 a2, .int .i64 a3, .int .i64 a4] rfl zq3 ?_; (with_reducible refine (culletref07_trusted.calls kj17 a0_0 _ _ l0_1 _ _ l0_2 _ _ l1 a2 a3 a4 t538 _ ?side1 ?side2 ?side3 ?side4 ?side5 ?side6 A23.out).mono ?_); (case side1 => repeat (first | exact (Kd.C_below HR0_1.out zq36) | (with_reducible refine Kd.C_alloc ?_ _) | (with_reducible refine Kd.C_drewN ?_ _) | (with_reducible refine Kd.C_drew ?_))); (case side2 => exact HC0_1.out); (case side3 => repeat (first | exact (Kd.C_below HR0_2.out zq36) | (with_reducible refine Kd.C_alloc ?_ _) | (with_reducible refine Kd.C_drewN ?_ _) | (with_reducible refine Kd.C_drew ?_))); (case side4 => exact HC0_2.out); (case side5 => repeat (first | exact (Kd.C_below HR1.out zq36) | (with_reducible refine Kd.C_alloc ?_ _) | (with_reducible refine Kd.C_drewN ?_ _) | (with_reducible refine Kd.C_drew ?_))); (case side6 => exact HC1.out); rintro e w25 ⟨rfl, hb⟩; refine ⟨_, rfl, ?_⟩; have n_ := as2 (blk_below (zq0 BK535.out) hb) (below_step zq36 hb); clear BK535 HB; obtain ⟨BK535, HB⟩ := n_; (try clear hb); (try clear hb2); (try clear hk); (try clear hi)))
       go_ret2
       exact ⟨zq7, zq36⟩
      ·rw [if_neg c22] at H
       have c22b0 : (t537 == 0) = false := beq_eq_false_iff_ne.mpr c22
       have c22b1 : (t537 != 0) = true := bne_iff_ne.mpr c22
       simp only [Option.some.injEq, Prod.mk.injEq] at H
       obtain ⟨rfl, rfl⟩ := H
       go_wp2_with (first | ((with_reducible refine gate_callee (f := 57) rfl ?_); refine goesL_ (some 44) rfl rfl Try.func57 zq32 rfl #[.slice A1 l1.length c1, .int .i64 a4] rfl zq3 ?_; (with_reducible refine (culletref07_bottle.calls kj17 _ _ l1 a4 t537 _ ?side1 ?side2 A21.out).mono ?_); (case side1 => exact zq12); (case side2 => exact HC1.out); rintro e w' ⟨rfl, ⟨nd, rfl⟩⟩; refine ⟨_, rfl, ?_⟩))
       go_ret2
       exact ⟨zq7, zq36⟩
     ·rw [if_neg c20] at H
      have c20b0 : (x12_17 == 0) = false := beq_eq_false_iff_ne.mpr c20
      have c20b1 : (x12_17 != 0) = true := bne_iff_ne.mpr c20
      simp only [Option.some.injEq, Prod.mk.injEq] at H
      obtain ⟨rfl, rfl⟩ := H
      go_wp2
      go_ret2
      exact ⟨zq7, zq36⟩
def culletref07_Judge.f (k : Nat) (a0_0 : Int) (l0_1 : List (S58)) (l0_2 : List (S56)) (l1 : List (S45)) (a2 : Int) : Option (Int × Int × Int) := (culletref07_CheckLog.f k a0_0 l0_1 l0_2 l1).bind fun t540 => (if t540 = 0 then ((culletref07_bottle.f k l1 a2).bind fun t541 => (if t541 = 0 then ((culletref07_judge.f k a0_0 l0_1 l0_2 l1 a2).bind fun bt542 => (some (bt542.1, bt542.2, 0))) else (some (0, 0, t541)))) else (some (0, 0, t540)))
set_option maxHeartbeats 8000000 in
set_option maxRecDepth 100000 in
theorem culletref07_Judge.calls (k : Nat) (a0_0 : Int) (A0_1 : Option Addr) (c0_1 : Nat) (l0_1 : List (S58)) (A0_2 : Option Addr) (c0_2 : Nat) (l0_2 : List (S56)) (A1 : Option Addr) (c1 : Nat) (l1 : List (S45)) (a2 : Int) (r1 : Int) (r2 : Int) (r3 : Int) (w : World) (hr0_1 : Kd.C k58 w A0_1 l0_1.length l0_1) (hc0_1 : l0_1.length ≤ c0_1) (hr0_2 : Kd.C k56 w A0_2 l0_2.length l0_2) (hc0_2 : l0_2.length ≤ c0_2) (hr1 : Kd.C k45 w A1 l1.length l1) (hc1 : l1.length ≤ c1) (h : culletref07_Judge.f k a0_0 l0_1 l0_2 l1 a2 = some (r1, r2, r3)) :
  Calls Try.prog 27 #[.agg #[.int .i64 a0_0, .slice A0_1 l0_1.length c0_1, .slice A0_2 l0_2.length c0_2], .slice A1 l1.length c1, .int .i64 a2] w fun e w' => e = .returned (.tuple #[.int .u8 r1, .int .i64 r2, .int .i64 r3]) ∧ Below w.heap.size w w' := by
 have hu25 := Try.underlying25
 have HR0_1 := Aside0.mk hr0_1
 have HC0_1 := Aside0.mk hc0_1
 clear hr0_1 hc0_1
 have HR0_2 := Aside0.mk hr0_2
 have HC0_2 := Aside0.mk hc0_2
 clear hr0_2 hc0_2
 have HR1 := Aside0.mk hr1
 have HC1 := Aside0.mk hc1
 clear hr1 hc1
 have HB := Aside0.mk (Below.refl w.heap.size w)
 have H : ((culletref07_CheckLog.f k a0_0 l0_1 l0_2 l1).bind fun t540 => (if t540 = 0 then ((culletref07_bottle.f k l1 a2).bind fun t541 => (if t541 = 0 then ((culletref07_judge.f k a0_0 l0_1 l0_2 l1 a2).bind fun bt542 => (some (bt542.1, bt542.2, 0))) else (some (0, 0, t541)))) else (some (0, 0, t540)))) = some (r1, r2, r3) := h
 clear h
 replace H := Option.bind_eq_some_iff.mp H
 obtain ⟨t540, A40, H⟩ := H
 replace H : (if t540 = 0 then ((culletref07_bottle.f k l1 a2).bind fun t541 => (if t541 = 0 then ((culletref07_judge.f k a0_0 l0_1 l0_2 l1 a2).bind fun bt542 => (some (bt542.1, bt542.2, 0))) else (some (0, 0, t541)))) else (some (0, 0, t540))) = some (r1, r2, r3) := H
 have A4 := Aside0.mk A40
 clear A40
 by_cases c5 : t540 = 0
 ·rw [if_pos c5] at H
  have c5b0 : (t540 == 0) = true := beq_iff_eq.mpr c5
  have c5b1 : (t540 != 0) = false := bne_eq_false_iff_eq.mpr c5
  clear c5
  replace H := Option.bind_eq_some_iff.mp H
  obtain ⟨t541, A60, H⟩ := H
  replace H : (if t541 = 0 then ((culletref07_judge.f k a0_0 l0_1 l0_2 l1 a2).bind fun bt542 => (some (bt542.1, bt542.2, 0))) else (some (0, 0, t541))) = some (r1, r2, r3) := H
  have A6 := Aside0.mk A60
  clear A60
  by_cases c7 : t541 = 0
  ·rw [if_pos c7] at H
   have c7b0 : (t541 == 0) = true := beq_iff_eq.mpr c7
   have c7b1 : (t541 != 0) = false := bne_eq_false_iff_eq.mpr c7
   clear c7
   replace H := Option.bind_eq_some_iff.mp H
   obtain ⟨⟨t542, t543⟩, A80, H⟩ := H
   replace H : (some (t542, t543, 0)) = some (r1, r2, r3) := H
   have A8 := Aside0.mk A80
   clear A80
   simp only [Option.some.injEq, Prod.mk.injEq] at H
   obtain ⟨rfl, rfl, rfl⟩ := H
   go_enter Try.func27, Try.ntmps27
   go_wp2_with (first | ((with_reducible refine gate_dst (N := 3) rfl ?_); refine box_event ?hg (N := 3) ?hd (cs := #[.int .i64 a0_0, .slice A0_1 l0_1.length c0_1, .slice A0_2 l0_2.length c0_2]) (t := 25) ?hr ?_; (case hd => rfl); (case hg => rfl); (case hr => exact zq9); intro gb539 hg w9 hbox hb; have n_ := as4 (below_step zq2 hb) (hbox) ((zq29 : w.heap.size ≤ gb539)) ((zq29 : w.heap.size ≤ gb539)); clear HB hb hbox hg; obtain ⟨HB, BK539, GW539, GE539⟩ := n_; obtain ⟨hcz10_0, hcz10_1, hcz10_2, hfz10_0, hfz10_1, hfz10_2⟩ := bcs3 BK539.out) | ((with_reducible refine gate_callee (f := 34) rfl ?_); refine goesL_ (some 14) rfl rfl Try.func34 zq32 rfl #[.agg #[.int .i64 a0_0, .slice A0_1 l0_1.length c0_1, .slice A0_2 l0_2.length c0_2], .slice A1 l1.length c1] rfl zq3 ?_; (with_reducible refine (culletref07_CheckLog.calls k a0_0 _ _ l0_1 _ _ l0_2 _ _ l1 t540 _ ?side1 ?side2 ?side3 ?side4 ?side5 ?side6 A4.out).mono ?_); (case side1 => exact zq4); (case side2 => exact HC0_1.out); (case side3 => exact zq5); (case side4 => exact HC0_2.out); (case side5 => exact zq12); (case side6 => exact HC1.out); rintro e w11 ⟨rfl, hb⟩; refine ⟨_, rfl, ?_⟩; have n_ := as2 (blk_below (zq0 BK539.out) hb) (below_step zq39 hb); clear BK539 HB; obtain ⟨BK539, HB⟩ := n_; (try clear hb); (try clear hb2); (try clear hk); (try clear hi)) | ((with_reducible refine gate_callee (f := 57) rfl ?_); refine goesL_ (some 19) rfl rfl Try.func57 zq32 rfl #[.slice A1 l1.length c1, .int .i64 a2] rfl zq3 ?_; (with_reducible refine (culletref07_bottle.calls k _ _ l1 a2 t541 _ ?side1 ?side2 A6.out).mono ?_); (case side1 => exact zq12); (case side2 => exact HC1.out); rintro e w' ⟨rfl, ⟨nd, rfl⟩⟩; refine ⟨_, rfl, ?_⟩; obtain ⟨hcz12_0, hcz12_1, hcz12_2, hfz12_0, hfz12_1, hfz12_2⟩ := bcs3 BK539.out) | ((with_reducible refine gate_callee (f := 58) rfl ?_); refine goesL_ (some 27) rfl rfl Try.func58 zq32 rfl #[.agg #[.int .i64 a0_0, .slice A0_1 l0_1.length c0_1, .slice A0_2 l0_2.length c0_2], .slice A1 l1.length c1, .int .i64 a2] rfl zq3 ?_; (with_reducible refine (culletref07_judge.calls k a0_0 _ _ l0_1 _ _ l0_2 _ _ l1 a2 t542 t543 _ ?side1 ?side2 ?side3 ?side4 ?side5 ?side6 A8.out).mono ?_); (case side1 => repeat (first | exact (Kd.C_below HR0_1.out zq39) | (with_reducible refine Kd.C_alloc ?_ _) | (with_reducible refine Kd.C_drewN ?_ _) | (with_reducible refine Kd.C_drew ?_))); (case side2 => exact HC0_1.out); (case side3 => repeat (first | exact (Kd.C_below HR0_2.out zq39) | (with_reducible refine Kd.C_alloc ?_ _) | (with_reducible refine Kd.C_drewN ?_ _) | (with_reducible refine Kd.C_drew ?_))); (case side4 => exact HC0_2.out); (case side5 => repeat (first | exact (Kd.C_below HR1.out zq39) | (with_reducible refine Kd.C_alloc ?_ _) | (with_reducible refine Kd.C_drewN ?_ _) | (with_reducible refine Kd.C_drew ?_))); (case side6 => exact HC1.out); rintro e w13 ⟨rfl, hb⟩; refine ⟨_, rfl, ?_⟩; have n_ := as2 (blk_below (zq0 BK539.out) hb) (below_step zq39 hb); clear BK539 HB; obtain ⟨BK539, HB⟩ := n_; (try clear hb); (try clear hb2); (try clear hk); (try clear hi)))
   go_ret3
   exact ⟨zq7, zq39⟩
  ·rw [if_neg c7] at H
   have c7b0 : (t541 == 0) = false := beq_eq_false_iff_ne.mpr c7
   have c7b1 : (t541 != 0) = true := bne_iff_ne.mpr c7
   simp only [Option.some.injEq, Prod.mk.injEq] at H
   obtain ⟨rfl, rfl, rfl⟩ := H
   go_enter Try.func27, Try.ntmps27
   go_wp2_with (first | ((with_reducible refine gate_dst (N := 3) rfl ?_); refine box_event ?hg (N := 3) ?hd (cs := #[.int .i64 a0_0, .slice A0_1 l0_1.length c0_1, .slice A0_2 l0_2.length c0_2]) (t := 25) ?hr ?_; (case hd => rfl); (case hg => rfl); (case hr => exact zq9); intro gb539 hg w14 hbox hb; have n_ := as4 (below_step zq2 hb) (hbox) ((zq29 : w.heap.size ≤ gb539)) ((zq29 : w.heap.size ≤ gb539)); clear HB hb hbox hg; obtain ⟨HB, BK539, GW539, GE539⟩ := n_; obtain ⟨hcz15_0, hcz15_1, hcz15_2, hfz15_0, hfz15_1, hfz15_2⟩ := bcs3 BK539.out) | ((with_reducible refine gate_callee (f := 34) rfl ?_); refine goesL_ (some 14) rfl rfl Try.func34 zq32 rfl #[.agg #[.int .i64 a0_0, .slice A0_1 l0_1.length c0_1, .slice A0_2 l0_2.length c0_2], .slice A1 l1.length c1] rfl zq3 ?_; (with_reducible refine (culletref07_CheckLog.calls k a0_0 _ _ l0_1 _ _ l0_2 _ _ l1 t540 _ ?side1 ?side2 ?side3 ?side4 ?side5 ?side6 A4.out).mono ?_); (case side1 => exact zq4); (case side2 => exact HC0_1.out); (case side3 => exact zq5); (case side4 => exact HC0_2.out); (case side5 => exact zq12); (case side6 => exact HC1.out); rintro e w16 ⟨rfl, hb⟩; refine ⟨_, rfl, ?_⟩; have n_ := as2 (blk_below (zq0 BK539.out) hb) (below_step zq39 hb); clear BK539 HB; obtain ⟨BK539, HB⟩ := n_; (try clear hb); (try clear hb2); (try clear hk); (try clear hi)) | ((with_reducible refine gate_callee (f := 57) rfl ?_); refine goesL_ (some 19) rfl rfl Try.func57 zq32 rfl #[.slice A1 l1.length c1, .int .i64 a2] rfl zq3 ?_; (with_reducible refine (culletref07_bottle.calls k _ _ l1 a2 t541 _ ?side1 ?side2 A6.out).mono ?_); (case side1 => exact zq12); (case side2 => exact HC1.out); rintro e w' ⟨rfl, ⟨nd, rfl⟩⟩; refine ⟨_, rfl, ?_⟩))
   go_ret3
   exact ⟨zq7, zq39⟩
 ·rw [if_neg c5] at H
  have c5b0 : (t540 == 0) = false := beq_eq_false_iff_ne.mpr c5
  have c5b1 : (t540 != 0) = true := bne_iff_ne.mpr c5
  simp only [Option.some.injEq, Prod.mk.injEq] at H
  obtain ⟨rfl, rfl, rfl⟩ := H
  go_enter Try.func27, Try.ntmps27
  go_wp2_with (first | ((with_reducible refine gate_dst (N := 3) rfl ?_); refine box_event ?hg (N := 3) ?hd (cs := #[.int .i64 a0_0, .slice A0_1 l0_1.length c0_1, .slice A0_2 l0_2.length c0_2]) (t := 25) ?hr ?_; (case hd => rfl); (case hg => rfl); (case hr => exact zq9); intro gb539 hg w17 hbox hb; have n_ := as4 (below_step zq2 hb) (hbox) ((zq29 : w.heap.size ≤ gb539)) ((zq29 : w.heap.size ≤ gb539)); clear HB hb hbox hg; obtain ⟨HB, BK539, GW539, GE539⟩ := n_; obtain ⟨hcz18_0, hcz18_1, hcz18_2, hfz18_0, hfz18_1, hfz18_2⟩ := bcs3 BK539.out) | ((with_reducible refine gate_callee (f := 34) rfl ?_); refine goesL_ (some 14) rfl rfl Try.func34 zq32 rfl #[.agg #[.int .i64 a0_0, .slice A0_1 l0_1.length c0_1, .slice A0_2 l0_2.length c0_2], .slice A1 l1.length c1] rfl zq3 ?_; (with_reducible refine (culletref07_CheckLog.calls k a0_0 _ _ l0_1 _ _ l0_2 _ _ l1 t540 _ ?side1 ?side2 ?side3 ?side4 ?side5 ?side6 A4.out).mono ?_); (case side1 => exact zq4); (case side2 => exact HC0_1.out); (case side3 => exact zq5); (case side4 => exact HC0_2.out); (case side5 => exact zq12); (case side6 => exact HC1.out); rintro e w19 ⟨rfl, hb⟩; refine ⟨_, rfl, ?_⟩; have n_ := as2 (blk_below (zq0 BK539.out) hb) (below_step zq39 hb); clear BK539 HB; obtain ⟨BK539, HB⟩ := n_; (try clear hb); (try clear hb2); (try clear hk); (try clear hi)))
  go_ret3
  exact ⟨zq7, zq39⟩
theorem Valid.claims {every : Int} {fl : List S58} {st : List S56} {l : List S45} (h : Valid every fl st l) : ∀ i, i < st.length → (rd_T56 st (i : Nat)).f1.length ≤ 8 := fun i hi => by
 have hs := h.se i hi
 unfold standErr at hs
 split at hs
 ·exact absurd hs zq53
 ·split at hs
  ·exact absurd hs zq53
  ·unfold claimsS at hs
   split at hs
   ·exact absurd hs zq53
   ·omega
theorem rhow_l0 {every : Int} {fl : List S58} {st : List S56} {l : List S45} (hv : Valid every fl st l) (c e t : Int) : ∀ r i k, i + r = st.length → r + 1100 < k → culletref07_how.l0 k l c e t (howN every st l c e t i) (i : Int) every fl st = some (howN every st l c e t st.length)
 | 0, i, k, h, hk => by
  obtain ⟨k, rfl⟩ : ∃ m, k = m + 1 := ⟨k - 1, zq17⟩
  have hi : i = st.length := by omega
  subst hi
  rw [culletref07_how.l0, if_neg zq17]
 | r + 1, i, k, h, hk => by
  obtain ⟨k, rfl⟩ : ∃ m, k = m + 1 := ⟨k - 1, zq17⟩
  have ih := rhow_l0 hv c e t r (i + 1) k zq17 zq17
  have hn2 := hv.n2
  have hb := howN_le every st l c e t i
  rw [culletref07_how.l0, if_pos zq17, rtrust_eq hv hv.claims (i : Int) c e zq17 zq17 k zq17, Option.bind_some, wsucc i zq17]
  have hs : howN every st l c e t (i + 1) = if trU every st l (i : Int) c e = t then howN every st l c e t i + 1 else howN every st l c e t i := rfl
  rw [hs] at ih
  by_cases ht : trU every st l (i : Int) c e = t
  ·rw [if_pos ht] at ih
   rw [if_pos ht, show wrap64 (howN every st l c e t i + 1) = howN every st l c e t i + 1 from by unfold wrap64; omega]
   exact ih
  ·rw [if_neg ht] at ih
   rw [if_neg ht]
   exact ih
theorem rhow_eq {every : Int} {fl : List S58} {st : List S56} {l : List S45} (hv : Valid every fl st l) (c e t : Int) (k : Nat) (hk : 1200 ≤ k) : culletref07_how.f k every fl st l c e t = some (howN every st l c e t st.length) := by
 have := hv.n2
 exact rhow_l0 hv c e t st.length 0 k zq17 zq17
def wvO (x : Int) : Int × Int := if x ≥ 0 then (0, x) else (2, -1)
theorem rjudge_l0 {every : Int} {fl : List S58} {st : List S56} {l : List S45} (hv : Valid every fl st l) (e : Int) : ∀ r i k (x : Int), i + r = fl.length → r + 1300 < k → culletref07_judge.l0 k l e x (i : Int) every fl st = some (judgeL every st l e (fl.drop i) i (wvO x))
 | 0, i, k, x, h, hk => by
  obtain ⟨k, rfl⟩ : ∃ m, k = m + 1 := ⟨k - 1, zq17⟩
  have hi : i = fl.length := by omega
  subst hi
  rw [culletref07_judge.l0, if_neg zq17, List.drop_length]
  unfold judgeL wvO
  split <;> rfl
 | r + 1, i, k, x, h, hk => by
  obtain ⟨k, rfl⟩ : ∃ m, k = m + 1 := ⟨k - 1, zq17⟩
  have hn1 := hv.n1
  have hn2 := hv.n2
  have hb1 := howN_le every st l (i : Int) e 1 st.length
  have hb0 := howN_le every st l (i : Int) e 0 st.length
  have hdrop : fl.drop i = rd_T58 fl (i : Int) :: fl.drop (i + 1) := by
   rw [List.drop_eq_getElem_cons zq17]
   simp [rd_T58, List.getD_eq_getElem?_getD, List.getElem?_eq_getElem (show i < fl.length by omega)]
  have ih := fun x => rjudge_l0 hv e r (i + 1) k x zq17 zq17
  rw [hdrop, culletref07_judge.l0, if_pos zq17, rhow_eq hv (i : Int) e 1 k zq17, rhow_eq hv (i : Int) e 0 k zq17]
  simp only [Option.bind_some]
  rw [if_pos zq17, wsucc i zq17, show wrap64 (howN every st l (i : Int) e 1 st.length + howN every st l (i : Int) e 0 st.length) = howN every st l (i : Int) e 1 st.length + howN every st l (i : Int) e 0 st.length from by unfold wrap64; omega]
  rw [judgeL]
  by_cases h1 : howN every st l (i : Int) e 1 st.length + howN every st l (i : Int) e 0 st.length < (rd_T58 fl (i : Int)).f1
  ·rw [if_pos h1, if_pos h1]
  ·rw [if_neg h1, if_neg h1]
   by_cases h2 : howN every st l (i : Int) e 1 st.length < (rd_T58 fl (i : Int)).f1
   ·rw [if_pos h2]
    by_cases h3 : x < 0
    ·rw [if_pos h3, ih, if_pos ⟨by unfold wvO; rw [if_neg zq17], h2⟩]
     rw [show wvO (i : Int) = (0, (i : Int)) from if_pos zq17]
    ·rw [if_neg h3, ih, if_neg (fun hh => by have := hh.1; unfold wvO at this; rw [if_pos zq17] at this; exact absurd (show (0 : Int) = 2 from this) zq53)]
   ·rw [if_neg h2, ih, if_neg (fun hh => h2 hh.2)]
theorem rjudge_eq {every : Int} {fl : List S58} {st : List S56} {l : List S45} (hv : Valid every fl st l) (e : Int) (h0 : 0 ≤ e) (h1 : e < l.length) (k : Nat) (hk : 1400 ≤ k) : culletref07_judge.f k every fl st l e = some (judgeS every fl st l e) := by
 have := hv.n1
 unfold culletref07_judge.f judgeS
 rw [if_pos h0, if_pos h1]
 by_cases hf : (rd_T45 l e).f6 = true
 ·rw [if_pos hf, if_pos hf]
 ·rw [if_neg hf, if_neg hf]
  exact rjudge_l0 hv e fl.length 0 k (-1) zq17 zq17
theorem rbottle_eq (l : List S45) (e : Int) (k : Nat) (hk : 1 ≤ k) : culletref07_bottle.f k l e = some (if win e 0 ((l.length : Int) - 1) = false then 7 else if (rd_T45 l e).f1 ≠ 1 then 1 else 0) := by
 obtain ⟨k, rfl⟩ : ∃ m, k = m + 1 := ⟨k - 1, zq17⟩
 unfold culletref07_bottle.f
 by_cases h1 : e < 0
 ·rw [if_pos h1, culletref07_bottle.j0, if_pos rfl, show win e 0 ((l.length : Int) - 1) = false from by unfold win; rw [show decide (0 ≤ e) = false from decide_eq_false zq17]; rfl]
  rfl
 ·rw [if_neg h1]
  by_cases h2 : e ≥ l.length
  ·rw [decide_eq_true h2, culletref07_bottle.j0, if_pos rfl, show win e 0 ((l.length : Int) - 1) = false from by unfold win; rw [show decide (e ≤ (l.length : Int) - 1) = false from decide_eq_false zq17, Bool.and_false]]
   rfl
  ·rw [decide_eq_false h2, culletref07_bottle.j0, if_neg zq53, if_pos zq17, if_pos zq17, show win e 0 ((l.length : Int) - 1) = true from by unfold win; rw [show decide (0 ≤ e) = true from decide_eq_true zq17, show decide (e ≤ (l.length : Int) - 1) = true from decide_eq_true zq17]; rfl]
   by_cases h3 : (rd_T45 l e).f1 = 1 <;> simp [h3]
theorem rJudge_eq (a0 : Int) (fl : List S58) (st : List S56) (l : List S45) (e : Int) (k : Nat) (hk : 2000 ≤ k) : culletref07_Judge.f k a0 fl st l e = some (judgeF a0 fl st l e) := by
 unfold culletref07_Judge.f judgeF
 rw [rLog_eq a0 fl st l k hk, Option.bind_some]
 by_cases h0 : logS a0 fl st l = 0
 ·rw [if_pos h0, if_neg (fun h => h h0), rbottle_eq l e k zq17, Option.bind_some]
  by_cases h1 : win e 0 ((l.length : Int) - 1) = false
  ·rw [if_pos h1, if_pos h1, if_neg zq53]
  ·rw [if_neg h1, if_neg h1]
   have hw := win_true (by simpa using h1)
   by_cases h2 : (rd_T45 l e).f1 ≠ 1
   ·rw [if_pos h2, if_pos h2, if_neg zq53]
   ·rw [if_neg h2, if_neg h2, if_pos rfl, rjudge_eq (logS_valid h0) e hw.1 zq17 k zq17, Option.bind_some]
 ·rw [if_neg h0, if_pos h0]
theorem rTrusted_eq (a0 : Int) (fl : List S58) (st : List S56) (l : List S45) (s c e : Int) (k : Nat) (hk : 2002 ≤ k) : culletref07_Trusted.f k a0 fl st l s c e = some (trustF a0 fl st l s c e) := by
 obtain ⟨k, rfl⟩ : ∃ m, k = m + 1 + 1 := ⟨k - 2, zq17⟩
 unfold culletref07_Trusted.f trustF
 rw [rLog_eq a0 fl st l _ zq17, Option.bind_some]
 have ht : ∀ n, culletref07_Trusted.j0 (k + 1 + 1) l s c e n true a0 fl st = some (0, 7) := fun n => by
  rw [culletref07_Trusted.j0, if_pos rfl, culletref07_Trusted.j1, if_neg zq53]
 by_cases h0 : logS a0 fl st l = 0
 ·rw [if_pos h0, if_neg (show ¬ (logS a0 fl st l ≠ 0) from fun h => h h0)]
  by_cases h1 : s < 0
  ·rw [if_pos h1, ht, show win s 0 ((st.length : Int) - 1) = false from by unfold win; rw [show decide (0 ≤ s) = false from decide_eq_false zq17]; rfl]
   rfl
  ·rw [if_neg h1]
   by_cases h2 : s ≥ st.length
   ·rw [if_pos h2, ht, show win s 0 ((st.length : Int) - 1) = false from by unfold win; rw [show decide (s ≤ (st.length : Int) - 1) = false from decide_eq_false zq17, Bool.and_false]]
    rfl
   ·rw [if_neg h2, show win s 0 ((st.length : Int) - 1) = true from by unfold win; rw [show decide (0 ≤ s) = true from decide_eq_true zq17, show decide (s ≤ (st.length : Int) - 1) = true from decide_eq_true zq17]; rfl]
    rw [if_neg (show ¬ true = false by decide)]
    by_cases h3 : c < 0
    ·rw [if_pos h3, ht, show win c 0 ((fl.length : Int) - 1) = false from by unfold win; rw [show decide (0 ≤ c) = false from decide_eq_false zq17]; rfl]
     rfl
    ·rw [if_neg h3]
     by_cases h4 : c ≥ fl.length
     ·rw [decide_eq_true h4, ht, show win c 0 ((fl.length : Int) - 1) = false from by unfold win; rw [show decide (c ≤ (fl.length : Int) - 1) = false from decide_eq_false zq17, Bool.and_false]]
      rfl
     ·rw [decide_eq_false h4, show win c 0 ((fl.length : Int) - 1) = true from by unfold win; rw [show decide (0 ≤ c) = true from decide_eq_true zq17, show decide (c ≤ (fl.length : Int) - 1) = true from decide_eq_true zq17]; rfl]
      rw [if_neg (show ¬ true = false by decide), culletref07_Trusted.j0, if_neg zq53, h0, culletref07_Trusted.j1, if_pos rfl, rbottle_eq l e k zq17, Option.bind_some]
      by_cases h5 : win e 0 ((l.length : Int) - 1) = false
      ·rw [if_pos h5, if_pos h5, if_neg zq53]
      ·rw [if_neg h5, if_neg h5]
       by_cases h6 : (rd_T45 l e).f1 ≠ 1
       ·rw [if_pos h6, if_pos h6, if_neg zq53]
       ·rw [if_neg h6, if_neg h6, if_pos rfl, rtrust_eq (logS_valid h0) (logS_valid h0).claims s c e zq17 zq17 k zq17, Option.bind_some]
 ·rw [if_neg h0, if_pos h0, culletref07_Trusted.j0, if_neg zq53, culletref07_Trusted.j1, if_neg h0]
mutual
def culletlaw07_many.j0 : Nat → Bool → Int → List (S58) → List (S56) → Option (Bool)
 | 0, _, _, _, _ => none
 | k + 1, x32, x102000, x102001, x102002 => if x32 = true then (some true) else (culletlaw07_many.l0 k 0 0 x102000 x102001 x102002)
def culletlaw07_many.l0 : Nat → Int → Int → Int → List (S58) → List (S56) → Option (Bool)
 | 0, _, _, _, _, _ => none
 | k + 1, x5, x6, x102000, x102001, x102002 => if x6 < (x102001.length : Int) then (if 0 ≤ x6 then (culletlaw07_many.l0 k (wrap64 (x5 + (((rd_T58 x102001 x6).f0).size : Int))) (wrap64 (x6 + 1)) x102000 x102001 x102002) else (none)) else (culletlaw07_many.l1 k x5 0 x102000 x102001 x102002)
def culletlaw07_many.l1 : Nat → Int → Int → Int → List (S58) → List (S56) → Option (Bool)
 | 0, _, _, _, _, _ => none
 | k + 1, x5, x7, x102000, x102001, x102002 => if x7 < (x102002.length : Int) then (if 0 ≤ x7 then (culletlaw07_many.l1 k (wrap64 ((wrap64 (x5 + (((rd_T56 x102002 x7).f0).size : Int))) + (((rd_T56 x102002 x7).f1).length : Int))) (wrap64 (x7 + 1)) x102000 x102001 x102002) else (none)) else (some (decide (x5 > 600)))
end
def culletlaw07_many.f (k : Nat) (a0_0 : Int) (l0_1 : List (S58)) (l0_2 : List (S56)) (l1 : List (S45)) : Option (Bool) := if (l0_1.length : Int) > 20 then (culletlaw07_many.j0 k true a0_0 l0_1 l0_2) else (if (l0_2.length : Int) > 20 then (culletlaw07_many.j0 k true a0_0 l0_1 l0_2) else (if (l1.length : Int) > 40 then (if (l1.length : Int) ≤ 512 then (culletlaw07_many.j0 k true a0_0 l0_1 l0_2) else (culletlaw07_many.j0 k (decide ((l1.length : Int) > 600)) a0_0 l0_1 l0_2)) else (culletlaw07_many.j0 k (decide ((l1.length : Int) > 600)) a0_0 l0_1 l0_2)))
set_option maxHeartbeats 8000000 in
set_option maxRecDepth 100000 in
theorem culletlaw07_many.calls (k : Nat) (a0_0 : Int) (A0_1 : Option Addr) (c0_1 : Nat) (l0_1 : List (S58)) (A0_2 : Option Addr) (c0_2 : Nat) (l0_2 : List (S56)) (A1 : Option Addr) (c1 : Nat) (l1 : List (S45)) (r : Bool) (w : World) (hr0_1 : Kd.C k58 w A0_1 l0_1.length l0_1) (hc0_1 : l0_1.length ≤ c0_1) (hr0_2 : Kd.C k56 w A0_2 l0_2.length l0_2) (hc0_2 : l0_2.length ≤ c0_2) (hr1 : Kd.C k45 w A1 l1.length l1) (hc1 : l1.length ≤ c1) (h : culletlaw07_many.f k a0_0 l0_1 l0_2 l1 = some r) :
  Calls Try.prog 10 #[.agg #[.int .i64 a0_0, .slice A0_1 l0_1.length c0_1, .slice A0_2 l0_2.length c0_2], .slice A1 l1.length c1] w fun e w' => e = .returned (.bool r) ∧ Below w.heap.size w w' := by
 have hu25 := Try.underlying25
 have HR0_1 := Aside0.mk hr0_1
 have HC0_1 := Aside0.mk hc0_1
 clear hr0_1 hc0_1
 have HR0_2 := Aside0.mk hr0_2
 have HC0_2 := Aside0.mk hc0_2
 clear hr0_2 hc0_2
 have HR1 := Aside0.mk hr1
 have HC1 := Aside0.mk hc1
 clear hr1 hc1
 have HB := Aside0.mk (Below.refl w.heap.size w)
 have H : (if (l0_1.length : Int) > 20 then (culletlaw07_many.j0 k true a0_0 l0_1 l0_2) else (if (l0_2.length : Int) > 20 then (culletlaw07_many.j0 k true a0_0 l0_1 l0_2) else (if (l1.length : Int) > 40 then (if (l1.length : Int) ≤ 512 then (culletlaw07_many.j0 k true a0_0 l0_1 l0_2) else (culletlaw07_many.j0 k (decide ((l1.length : Int) > 600)) a0_0 l0_1 l0_2)) else (culletlaw07_many.j0 k (decide ((l1.length : Int) > 600)) a0_0 l0_1 l0_2)))) = some r := h
 clear h
 have HC3 := Aside0.mk H
 clear H
 go_enter Try.func10, Try.ntmps10
 go_upto_region 1 with (first | ((with_reducible refine gate_dst (N := 2) rfl ?_); (try (refine gate_guard zq58 ?_; dsimp only)); refine box_event ?hg (N := 2) ?hd (cs := #[.int .i64 a0_0, .slice A0_1 l0_1.length c0_1, .slice A0_2 l0_2.length c0_2]) (t := 25) ?hr ?_; (case hd => rfl); (case hg => rfl); (case hr => exact zq9); intro gb101 hg w4 hbox hb; have n_ := as4 (below_step zq2 hb) (hbox) ((zq29 : w.heap.size ≤ gb101)) ((zq29 : w.heap.size ≤ gb101)); clear HB hb hbox hg; obtain ⟨HB, BK101, GW101, GE101⟩ := n_))
 repeat (go_quiet (first | ((with_reducible refine gate_dst (N := 2) rfl ?_); (try (refine gate_guard zq58 ?_; dsimp only)); refine box_event ?hg (N := 2) ?hd (cs := #[.int .i64 a0_0, .slice A0_1 l0_1.length c0_1, .slice A0_2 l0_2.length c0_2]) (t := 25) ?hr ?_; (case hd => rfl); (case hg => rfl); (case hr => exact zq9); intro gb101 hg w4 hbox hb; have n_ := as4 (below_step zq2 hb) (hbox) ((zq29 : w.heap.size ≤ gb101)) ((zq29 : w.heap.size ≤ gb101)); clear HB hb hbox hg; obtain ⟨HB, BK101, GW101, GE101⟩ := n_)); go_upto_region 1 with (first | ((with_reducible refine gate_dst (N := 2) rfl ?_); (try (refine gate_guard zq58 ?_; dsimp only)); refine box_event ?hg (N := 2) ?hd (cs := #[.int .i64 a0_0, .slice A0_1 l0_1.length c0_1, .slice A0_2 l0_2.length c0_2]) (t := 25) ?hr ?_; (case hd => rfl); (case hg => rfl); (case hr => exact zq9); intro gb101 hg w4 hbox hb; have n_ := as4 (below_step zq2 hb) (hbox) ((zq29 : w.heap.size ≤ gb101)) ((zq29 : w.heap.size ≤ gb101)); clear HB hb hbox hg; obtain ⟨HB, BK101, GW101, GE101⟩ := n_)))
 (try simp only [Act.put, List.setIfInBounds_toArray, List.set_cons_zero, List.set_cons_succ])
 go_cut [32] (fun v32 wc => ∃ (kq : Nat) (x32_2 : Bool), v32 = .bool x32_2 ∧ Aside0 (culletlaw07_many.j0 kq x32_2 a0_0 l0_1 l0_2 = some r) ∧ Aside0 (kq ≤ k) ∧ Aside0 (wc.heap[gb101]? = some (.cells #[.int .i64 a0_0, (.slice A0_1 l0_1.length c0_1), (.slice A0_2 l0_2.length c0_2)] 25 (0, 0))) ∧ Aside0 (Below w.heap.size w wc))
 case first =>
  have H := HC3.out
  clear HC3
  by_cases c5 : (l0_1.length : Int) > 20
  ·rw [if_pos c5] at H
   have c5b0 : decide (20 < (l0_1.length : Int)) = true := decide_eq_true c5
   have c5b1 : decide (20 < l0_1.length) = true := decide_eq_true zq17
   clear c5
   (first | rw [c5b0] | (simp only [i64_w, i32_w]; rw [c5b0]) | skip)
   have H' := Aside0.mk H
   clear H
   obtain ⟨hcz6_0, hcz6_1, hcz6_2, hfz6_0, hfz6_1, hfz6_2⟩ := bcs3 BK101.out
   go_wp2
   repeat (go_quiet (fail); try go_wp2)
   go_meet
   case rel => exact ⟨_, (true), zq8, H', ⟨zq41⟩, ⟨(zq0 BK101.out)⟩, ⟨zq21⟩⟩
  ·rw [if_neg c5] at H
   have c5b0 : decide (20 < (l0_1.length : Int)) = false := decide_eq_false c5
   have c5b1 : decide (20 < l0_1.length) = false := decide_eq_false zq17
   clear c5
   (first | rw [c5b0] | (simp only [i64_w, i32_w]; rw [c5b0]) | skip)
   by_cases c7 : (l0_2.length : Int) > 20
   ·rw [if_pos c7] at H
    have c7b0 : decide (20 < (l0_2.length : Int)) = true := decide_eq_true c7
    have c7b1 : decide (20 < l0_2.length) = true := decide_eq_true zq17
    clear c7
    have H' := Aside0.mk H
    clear H
    obtain ⟨hcz8_0, hcz8_1, hcz8_2, hfz8_0, hfz8_1, hfz8_2⟩ := bcs3 BK101.out
    go_wp2
    repeat (go_quiet (fail); try go_wp2)
    go_meet
    case rel => exact ⟨_, (true), zq8, H', ⟨zq41⟩, ⟨(zq0 BK101.out)⟩, ⟨zq21⟩⟩
   ·rw [if_neg c7] at H
    have c7b0 : decide (20 < (l0_2.length : Int)) = false := decide_eq_false c7
    have c7b1 : decide (20 < l0_2.length) = false := decide_eq_false zq17
    clear c7
    by_cases c9 : (l1.length : Int) > 40
    ·rw [if_pos c9] at H
     have c9b0 : decide (40 < (l1.length : Int)) = true := decide_eq_true c9
     have c9b1 : decide (40 < l1.length) = true := decide_eq_true zq17
     clear c9
     by_cases c10 : (l1.length : Int) ≤ 512
     ·rw [if_pos c10] at H
      have c10b0 : decide ((l1.length : Int) ≤ 512) = true := decide_eq_true c10
      have c10b1 : decide (l1.length ≤ 512) = true := decide_eq_true zq17
      clear c10
      have H' := Aside0.mk H
      clear H
      obtain ⟨hcz11_0, hcz11_1, hcz11_2, hfz11_0, hfz11_1, hfz11_2⟩ := bcs3 BK101.out
      go_wp2
      repeat (go_quiet (fail); try go_wp2)
      go_meet
      case rel => exact ⟨_, (true), zq8, H', ⟨zq41⟩, ⟨(zq0 BK101.out)⟩, ⟨zq21⟩⟩
     ·rw [if_neg c10] at H
      have c10b0 : decide ((l1.length : Int) ≤ 512) = false := decide_eq_false c10
      have c10b1 : decide (l1.length ≤ 512) = false := decide_eq_false zq17
      clear c10
      have H' := Aside0.mk H
      clear H
      obtain ⟨hcz12_0, hcz12_1, hcz12_2, hfz12_0, hfz12_1, hfz12_2⟩ := bcs3 BK101.out
      go_wp2
      repeat (go_quiet (fail); try go_wp2)
      go_meet
      case rel => exact ⟨_, (decide ((l1.length : Int) > 600)), zq8, H', ⟨zq41⟩, ⟨(zq0 BK101.out)⟩, ⟨zq21⟩⟩
    ·rw [if_neg c9] at H
     have c9b0 : decide (40 < (l1.length : Int)) = false := decide_eq_false c9
     have c9b1 : decide (40 < l1.length) = false := decide_eq_false zq17
     clear c9
     have H' := Aside0.mk H
     clear H
     obtain ⟨hcz13_0, hcz13_1, hcz13_2, hfz13_0, hfz13_1, hfz13_2⟩ := bcs3 BK101.out
     go_wp2
     repeat (go_quiet (fail); try go_wp2)
     go_meet
     case rel => exact ⟨_, (decide ((l1.length : Int) > 600)), zq8, H', ⟨zq41⟩, ⟨(zq0 BK101.out)⟩, ⟨zq21⟩⟩
 case rest =>
  clear HC3
  try clear c1
  try clear p2
  try clear c5
  try clear c5b0
  try clear c5b1
  try clear c7
  try clear c7b0
  try clear c7b1
  try clear c9
  try clear c9b0
  try clear c9b1
  try clear c10
  try clear c10b0
  try clear c10b1
  try clear hcz11_0 hcz11_1 hcz11_2 hfz11_0 hfz11_1 hfz11_2
  try clear hcz12_0 hcz12_1 hcz12_2 hfz12_0 hfz12_1 hfz12_2
  try clear hcz13_0 hcz13_1 hcz13_2 hfz13_0 hfz13_1 hfz13_2
  try clear hcz6_0 hcz6_1 hcz6_2 hfz6_0 hfz6_1 hfz6_2
  try clear hcz8_0 hcz8_1 hcz8_2 hfz8_0 hfz8_1 hfz8_2
  obtain ⟨kq, x32_2, rfl, HA, HJ2, BK101, HB⟩ := hcut
  cases kq with
  | zero => exact absurd HA.out (by simp [culletlaw07_many.j0])
  | succ kj2 =>
   have H := HA.out
   clear HA
   simp only [culletlaw07_many.j0] at H
   by_cases c14 : x32_2 = true
   ·subst c14
    have H1 : (some true) = some r := by rw [if_pos rfl] at H; exact H
    clear H
    have H := H1
    clear H1
    obtain rfl := Option.some.inj H
    go_wp2
    repeat (go_quiet (fail); try go_wp2)
    go_ret
    exact ⟨zq7, zq21⟩
   ·replace c14 := Bool.eq_false_iff.mpr c14
    subst c14
    have H1 : (culletlaw07_many.l0 kj2 0 0 a0_0 l0_1 l0_2) = some r := by rw [if_neg (show ¬ (false = true) by decide)] at H; exact H
    clear H
    have H := H1
    clear H1
    have H' := Aside0.mk H
    clear H
    go_wp2
    repeat (go_quiet (fail); try go_wp2)
    go_loopg [5, 6] kj2 (fun kq v5 v6 w' => ∃ (x5_2 : Int) (x6_2 : Int), v5 = .int .i64 x5_2 ∧ v6 = .int .i64 x6_2 ∧ Aside0 (culletlaw07_many.l0 kq x5_2 x6_2 a0_0 l0_1 l0_2 = some r) ∧ Aside0 (kq ≤ kj2) ∧ Aside0 (w'.heap[gb101]? = some (.cells #[.int .i64 a0_0, (.slice A0_1 l0_1.length c0_1), (.slice A0_2 l0_2.length c0_2)] 25 (0, 0))) ∧ Aside0 (Below w.heap.size w w'))
    case atStart => exact ⟨(0), (0), zq8, zq8, H', ⟨Nat.le_refl _⟩, ⟨(zq0 BK101.out)⟩, ⟨zq21⟩⟩
    case round =>
     clear H'
     try clear c1
     try clear p2 p2
     try clear c5
     try clear c5b0
     try clear c5b1
     try clear c7
     try clear c7b0
     try clear c7b1
     try clear c9
     try clear c9b0
     try clear c9b1
     try clear c10
     try clear c10b0
     try clear c10b1
     try clear c14
     try clear hcz11_0 hcz11_1 hcz11_2 hfz11_0 hfz11_1 hfz11_2
     try clear hcz12_0 hcz12_1 hcz12_2 hfz12_0 hfz12_1 hfz12_2
     try clear hcz13_0 hcz13_1 hcz13_2 hfz13_0 hfz13_1 hfz13_2
     try clear hcz6_0 hcz6_1 hcz6_2 hfz6_0 hfz6_1 hfz6_2
     try clear hcz8_0 hcz8_1 hcz8_2 hfz8_0 hfz8_1 hfz8_2
     obtain ⟨x5_2, x6_2, rfl, rfl, HA, HK2, BK101, HB⟩ := hrel
     cases gk with
     | zero => exact absurd HA.out (by simp [culletlaw07_many.l0])
     | succ k2 =>
      have H := HA.out
      clear HA
      simp only [culletlaw07_many.l0] at H
      by_cases c15 : x6_2 < (l0_1.length : Int)
      ·rw [if_pos c15] at H
       have c15b0 : decide (x6_2 < (l0_1.length : Int)) = true := decide_eq_true c15
       clear c15
       by_cases c16 : 0 ≤ x6_2
       ·rw [if_pos c16] at H
        have c16b0 : decide (0 ≤ x6_2) = true := decide_eq_true c16
        clear c16
        have H' := Aside0.mk H
        clear H
        obtain ⟨hcz17_0, hcz17_1, hcz17_2, hfz17_0, hfz17_1, hfz17_2⟩ := bcs3 BK101.out
        have p102 : 0 ≤ (x6_2 : Int) := of_decide_eq_true zq6
        have q102 : x6_2 < (l0_1.length : Int) := of_decide_eq_true zq6
        obtain ⟨ad102, e102, hx102_0, hx102_1⟩ := at_T58 HR0_1.out x6_2 p102 q102
        cases e102
        replace hx102_0 := hcx HB.out hx102_0
        replace hx102_1 := hcx HB.out hx102_1
        replace p102 := eq_true p102
        replace q102 := eq_true q102
        go_wp2
        repeat (go_quiet (fail); try go_wp2)
        go_roundg k2
        case measure => have := HJ2.out; have := HK2.out; omega
        case rel => exact ⟨(wrap64 (x5_2 + (((rd_T58 l0_1 x6_2).f0).size : Int))), (wrap64 (x6_2 + 1)), zq8, zq8, H', ⟨by have := HJ2.out; have := HK2.out; omega⟩, ⟨(zq0 BK101.out)⟩, ⟨zq21⟩⟩
       ·rw [if_neg c16] at H
        exact absurd H zq81
      ·rw [if_neg c15] at H
       have c15b0 : decide (x6_2 < (l0_1.length : Int)) = false := decide_eq_false c15
       clear c15
       have H' := Aside0.mk H
       clear H
       obtain ⟨hcz18_0, hcz18_1, hcz18_2, hfz18_0, hfz18_1, hfz18_2⟩ := bcs3 BK101.out
       go_wp2
       repeat (go_quiet (fail); try go_wp2)
       go_loopg [5, 7] k2 (fun kq v5 v7 w' => ∃ (x5_3 : Int) (x7_3 : Int), v5 = .int .i64 x5_3 ∧ v7 = .int .i64 x7_3 ∧ Aside0 (culletlaw07_many.l1 kq x5_3 x7_3 a0_0 l0_1 l0_2 = some r) ∧ Aside0 (kq ≤ k2) ∧ Aside0 (w'.heap[gb101]? = some (.cells #[.int .i64 a0_0, (.slice A0_1 l0_1.length c0_1), (.slice A0_2 l0_2.length c0_2)] 25 (0, 0))) ∧ Aside0 (Below w.heap.size w w'))
       case atStart => exact ⟨(x5_2), (0), zq8, zq8, H', ⟨Nat.le_refl _⟩, ⟨(zq0 BK101.out)⟩, ⟨zq21⟩⟩
       case round =>
        clear H'
        try clear c1
        try clear p1
        try clear q1
        try clear hx1
        try clear p2 p2
        try clear c5
        try clear c5b0
        try clear c5b1
        try clear p6
        try clear c7
        try clear c7b0
        try clear c7b1
        try clear c9
        try clear c9b0
        try clear c9b1
        try clear c10
        try clear c10b0
        try clear c10b1
        try clear p10
        try clear q10
        try clear hx10
        try clear c14
        try clear c15
        try clear c15b0
        try clear c16
        try clear c16b0
        try clear hcz11_0 hcz11_1 hcz11_2 hfz11_0 hfz11_1 hfz11_2
        try clear hcz12_0 hcz12_1 hcz12_2 hfz12_0 hfz12_1 hfz12_2
        try clear hcz13_0 hcz13_1 hcz13_2 hfz13_0 hfz13_1 hfz13_2
        try clear hcz17_0 hcz17_1 hcz17_2 hfz17_0 hfz17_1 hfz17_2
        try clear hcz18_0 hcz18_1 hcz18_2 hfz18_0 hfz18_1 hfz18_2
        try clear hcz6_0 hcz6_1 hcz6_2 hfz6_0 hfz6_1 hfz6_2
        try clear hcz8_0 hcz8_1 hcz8_2 hfz8_0 hfz8_1 hfz8_2
        try clear hx102_0
        try clear hx102_1
        try clear p102
        try clear q102
        obtain ⟨x5_3, x7_3, rfl, rfl, HA, HK3, BK101, HB⟩ := hrel
        cases gk with
        | zero => exact absurd HA.out (by simp [culletlaw07_many.l1])
        | succ k3 =>
         have H := HA.out
         clear HA
         simp only [culletlaw07_many.l1] at H
         by_cases c19 : x7_3 < (l0_2.length : Int)
         ·rw [if_pos c19] at H
          have c19b0 : decide (x7_3 < (l0_2.length : Int)) = true := decide_eq_true c19
          clear c19
          by_cases c20 : 0 ≤ x7_3
          ·rw [if_pos c20] at H
           have c20b0 : decide (0 ≤ x7_3) = true := decide_eq_true c20
           clear c20
           have H' := Aside0.mk H
           clear H
           obtain ⟨hcz21_0, hcz21_1, hcz21_2, hfz21_0, hfz21_1, hfz21_2⟩ := bcs3 BK101.out
           have p103 : 0 ≤ (x7_3 : Int) := of_decide_eq_true zq6
           have q103 : x7_3 < (l0_2.length : Int) := of_decide_eq_true zq6
           obtain ⟨ad103, A103_1, c103_1, e103, hx103_0, hx103_1, hl103_1, hi103_1⟩ := at_T56 HR0_2.out x7_3 p103 q103
           cases e103
           replace hx103_0 := hcx HB.out hx103_0
           replace hx103_1 := hcx HB.out hx103_1
           have HR103_1 := Aside0.mk hi103_1
           have HC103_1 := Aside0.mk hl103_1
           clear hi103_1 hl103_1
           replace p103 := eq_true p103
           replace q103 := eq_true q103
           have p104 : 0 ≤ (x7_3 : Int) := of_decide_eq_true zq6
           have q104 : x7_3 < (l0_2.length : Int) := of_decide_eq_true zq6
           obtain ⟨ad104, A104_1, c104_1, e104, hx104_0, hx104_1, hl104_1, hi104_1⟩ := at_T56 HR0_2.out x7_3 p104 q104
           obtain rfl : ad103 = ad104 := (by injection e104)
           replace hx104_0 := hcx HB.out hx104_0
           replace hx104_1 := hcx HB.out hx104_1
           have HR104_1 := Aside0.mk hi104_1
           have HC104_1 := Aside0.mk hl104_1
           clear hi104_1 hl104_1
           replace p104 := eq_true p104
           replace q104 := eq_true q104
           have ea_ := Option.some.inj (hx103_1.symm.trans hx104_1)
           injection ea_ with ea_ en_ ec_
           subst ea_
           subst ec_
           clear en_
           go_wp2
           repeat (go_quiet (fail); try go_wp2)
           go_roundg k3
           case measure => have := HJ2.out; have := HK2.out; have := HK3.out; omega
           case rel => exact ⟨(wrap64 ((wrap64 (x5_3 + (((rd_T56 l0_2 x7_3).f0).size : Int))) + (((rd_T56 l0_2 x7_3).f1).length : Int))), (wrap64 (x7_3 + 1)), zq8, zq8, H', ⟨by have := HJ2.out; have := HK2.out; have := HK3.out; omega⟩, ⟨(zq0 BK101.out)⟩, ⟨zq21⟩⟩
          ·rw [if_neg c20] at H
           exact absurd H zq81
         ·rw [if_neg c19] at H
          have c19b0 : decide (x7_3 < (l0_2.length : Int)) = false := decide_eq_false c19
          clear c19
          obtain rfl := Option.some.inj H
          obtain ⟨hcz22_0, hcz22_1, hcz22_2, hfz22_0, hfz22_1, hfz22_2⟩ := bcs3 BK101.out
          go_wp2
          repeat (go_quiet (fail); try go_wp2)
          go_ret
          exact ⟨zq7, zq21⟩
end Go.Proofs.Ytbpebehbfpgjbaa.P
end
