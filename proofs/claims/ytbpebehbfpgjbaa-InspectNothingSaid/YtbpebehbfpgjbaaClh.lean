/- InspectLots, as the seat states it: for every line of inspection and every log the statement's function returns true. No condition beyond the given row's own. -/
import Derived.Deep.RegionHeld3
import Derived.Test.YtbpebehbfpgjbaaRows
import Derived.WalkKit
import Derived.ProofKit
import Derived.OpenShut
import Derived.ShutString
import Derived.ChangeOld
import Derived.Below
import Derived.SizedLaws
import Derived.Test.YtbpebehbfpgjbaaClb
import Derived.Test.YtbpebehbfpgjbaaClc
import Derived.Test.YtbpebehbfpgjbaaClf
import Derived.Test.YtbpebehbfpgjbaaClg
section
namespace Go.Proofs.Ytbpebehbfpgjbaa.P
open Go.RowKit Go.Proofs.YtbpebehbfpgjbaaW.PrintWords Go.Proofs.YtbpebehbfpgjbaaW.PrintLast Go.Proofs.YtbpebehbfpgjbaaW.PrintMore
attribute [local go_sem] max2_int min2_int max_two min_two max_three min_three max_four min_four
set_option linter.unusedVariables false
set_option linter.unusedSimpArgs false
def culletlaw07_eye.f  : Option (Int × (List (S58)) × (List (S56))) := some (100, (([(⟨(⟨#[99, 114, 97, 99, 107]⟩ : ByteArray), 1⟩ : S58)] : List (S58))), (([(⟨(⟨#[101, 121, 101]⟩ : ByteArray), (([(⟨0, 1, 50⟩ : S68)] : List (S68)))⟩ : S56)] : List (S56))))
set_option maxHeartbeats 8000000 in
set_option maxRecDepth 100000 in
theorem culletlaw07_eye.calls  (r1 : Int) (r2 : List (S58)) (r3 : List (S56)) (w : World) (h : culletlaw07_eye.f  = some (r1, r2, r3)) :
  Calls Try.prog 30 #[] w fun e w' => ∃ v1_ v2_ : Value, e = .returned (.agg #[.int .i64 r1, v1_, v2_]) ∧ Kd.R k58 58 w' w.heap.size (fun k_ => (w.heap.size ≤ k_)) v1_ r2 ∧ Kd.N k56 56 w' w.heap.size (fun k_ => (w.heap.size ≤ k_) ∧ some k_ ≠ (v1_ : Value).ownBlock) v2_ r3 ∧ Below w.heap.size w w' := by
 have hu25 := Try.underlying25
 have hu58 := Try.underlying58
 have hu68 := Try.underlying68
 have hu56 := Try.underlying56
 have HB := Aside0.mk (Below.refl w.heap.size w)
 have H : (some (100, (([(⟨(⟨#[99, 114, 97, 99, 107]⟩ : ByteArray), 1⟩ : S58)] : List (S58))), (([(⟨(⟨#[101, 121, 101]⟩ : ByteArray), (([(⟨0, 1, 50⟩ : S68)] : List (S68)))⟩ : S56)] : List (S56))))) = some (r1, r2, r3) := h
 clear h
 obtain ⟨y102, hy102⟩ : ∃ y_ : List (S58), y_ = (([(⟨(⟨#[99, 114, 97, 99, 107]⟩ : ByteArray), 1⟩ : S58)] : List (S58))) := ⟨_, rfl⟩
 replace H : (some (100, y102, (([(⟨(⟨#[101, 121, 101]⟩ : ByteArray), (([(⟨0, 1, 50⟩ : S68)] : List (S68)))⟩ : S56)] : List (S56))))) = some (r1, r2, r3) := by first | (rw [hy102]; with_reducible exact H) | (have H2_ := (Option.bind_some _ _).symm.trans H; rw [hy102]; with_reducible exact H2_) | (have H2_ := (Option.bind_some _ _).symm.trans H; with_reducible exact H2_) | with_reducible exact H | (rw [hy102]; exact H) | exact H
 have Ny102 := Aside0.mk hy102
 clear hy102
 obtain ⟨y105, hy105⟩ : ∃ y_ : List (S68), y_ = (([(⟨0, 1, 50⟩ : S68)] : List (S68))) := ⟨_, rfl⟩
 replace H : (some (100, y102, (([(⟨(⟨#[101, 121, 101]⟩ : ByteArray), y105⟩ : S56)] : List (S56))))) = some (r1, r2, r3) := by first | (rw [hy105]; with_reducible exact H) | (have H2_ := (Option.bind_some _ _).symm.trans H; rw [hy105]; with_reducible exact H2_) | (have H2_ := (Option.bind_some _ _).symm.trans H; with_reducible exact H2_) | with_reducible exact H | (rw [hy105]; exact H) | exact H
 have Ny105 := Aside0.mk hy105
 clear hy105
 obtain ⟨y108, hy108⟩ : ∃ y_ : List (S56), y_ = (([(⟨(⟨#[101, 121, 101]⟩ : ByteArray), y105⟩ : S56)] : List (S56))) := ⟨_, rfl⟩
 replace H : (some (100, y102, y108)) = some (r1, r2, r3) := by first | (rw [hy108]; with_reducible exact H) | (have H2_ := (Option.bind_some _ _).symm.trans H; rw [hy108]; with_reducible exact H2_) | (have H2_ := (Option.bind_some _ _).symm.trans H; with_reducible exact H2_) | with_reducible exact H | (rw [hy108]; exact H) | exact H
 have Ny108 := Aside0.mk hy108
 clear hy108
 simp only [Option.some.injEq, Prod.mk.injEq] at H
 obtain ⟨rfl, rfl, rfl⟩ := H
 go_enter Try.func30, Try.ntmps30
 go_wp2_with (first | ((with_reducible refine gate_dst (N := 0) rfl ?_); refine box_event ?hg (N := 0) ?hd (cs := #[.int .i64 0, .slice none 0 0, .slice none 0 0]) (t := 25) ?hr ?_; (case hd => rfl); (case hg => rfl); (case hr => exact zq13); intro gb101 hg w1 hbox hb; have n_ := as4 (below_step zq2 hb) (hbox) ((zq23 : w.heap.size ≤ gb101)) ((zq23 : w.heap.size ≤ gb101)); clear HB hb hbox hg; obtain ⟨HB, BK101, GW101, GE101⟩ := n_) | ((with_reducible refine gate_dst (N := 2) rfl ?_); refine Kd.R_lit k58 _ 58 ?hg (N := 2) ?hd (xs := ([(⟨(⟨#[99, 114, 97, 99, 107]⟩ : ByteArray), 1⟩ : S58)] : List (S58))) (inner := [.string (⟨#[99, 114, 97, 99, 107]⟩ : ByteArray), .int .i64 1]) (ok := fun _ => True) (okp := fun _ => True) ?hr ?hp (fun _ hk => hk) trivial (Below.refl _ _) (Nat.le_refl _) zq51 ?_; (case hd => rfl); (case hg => rfl); (case hr => exact zq13); (case hp => exact (Reps.c2 (show Kd.M k58 _ _ _ (⟨(⟨#[99, 114, 97, 99, 107]⟩ : ByteArray), 1⟩ : S58) [.string (⟨#[99, 114, 97, 99, 107]⟩ : ByteArray), .int .i64 1] from (k58_mkM _ _ _ (⟨(⟨#[99, 114, 97, 99, 107]⟩ : ByteArray), 1⟩ : S58) )) (Reps.none _ _))); intro v103 w2 ho3 hb hg_ hnew_; clear hg_ hnew_; (first | rw [← Ny102.out] at ho3 | (simp only [Int.reduceToNat] at ho3; rw [← Ny102.out] at ho3)); have n_ := as3 (Kd.R_lower (Kd.R_newM (M := fun k_ => (w.heap.size ≤ k_)) ho3 (below_size zq11) (fun k_ h_ => h_)) (below_size zq11)) (blk_below (zq0 BK101.out) hb) (below_step zq11 hb); clear BK101 HB; obtain ⟨HO104, BK101, HB⟩ := n_; clear hb ho3) | ((with_reducible refine gate_dst (N := 4) rfl ?_); refine Kd.R_lit k68 _ 68 ?hg (N := 4) ?hd (xs := ([(⟨0, 1, 50⟩ : S68)] : List (S68))) (inner := [.int .i64 0, .int .i64 1, .int .i64 50]) (ok := fun _ => True) (okp := fun _ => True) ?hr ?hp (fun _ hk => hk) trivial (Below.refl _ _) (Nat.le_refl _) zq51 ?_; (case hd => rfl); (case hg => rfl); (case hr => exact zq13); (case hp => exact (Reps.c3 (show Kd.M k68 _ _ _ (⟨0, 1, 50⟩ : S68) [.int .i64 0, .int .i64 1, .int .i64 50] from (k68_mkM _ _ _ (⟨0, 1, 50⟩ : S68) )) (Reps.none _ _))); intro v106 w4 ho5 hb hg_ hnew_; clear hg_ hnew_; (first | rw [← Ny105.out] at ho5 | (simp only [Int.reduceToNat] at ho5; rw [← Ny105.out] at ho5)); have n_ := as4 (Kd.R_below (zq1 HO104.out) hb) (Kd.R_lower (Kd.R_newM (M := fun k_ => (w.heap.size ≤ k_)) ho5 (below_size zq11) (fun k_ h_ => h_)) (below_size zq11)) (blk_below (zq0 BK101.out) hb) (below_step zq11 hb); clear HO104 BK101 HB; obtain ⟨HO104, HO107, BK101, HB⟩ := n_; clear hb ho5; obtain ⟨Ao6, co6, eo6⟩ := Kd.R_slice HO107.out; subst eo6) | ((with_reducible refine gate_dst (N := 6) rfl ?_); refine Kd.N_lit k56 _ 56 ?hg (N' := 6) ?hd (xs := ([(⟨(⟨#[101, 121, 101]⟩ : ByteArray), y105⟩ : S56)] : List (S56))) (inner := [.string (⟨#[101, 121, 101]⟩ : ByteArray), .slice Ao6 y105.length co6]) (ok := (fun k_ => (w.heap.size ≤ k_) ∧ some k_ ≠ (v103 : Value).ownBlock ∧ k_ ≠ gb101)) (okp := (fun k_ => (w.heap.size ≤ k_) ∧ some k_ ≠ (v103 : Value).ownBlock ∧ k_ ≠ gb101)) ?hr ?hp (fun _ hk => hk) ((show ∀ k_, w4.heap.size ≤ k_ → (fun k_ => (w.heap.size ≤ k_) ∧ some k_ ≠ (v103 : Value).ownBlock ∧ k_ ≠ gb101) k_ from fun k_ hk => ⟨(Nat.le_trans (below_size zq11) hk), Kd.fresh' (Kd.R_lt (zq1 HO104.out)) k_ hk, Kd.freshB (zq0 BK101.out) k_ hk⟩) _ (Nat.le_refl _)) (Below.refl _ _) (Nat.le_refl _) zq51 ?_; (case hd => rfl); (case hg => rfl); (case hr => exact zq13); (case hp => exact (Reps.c2 (show Kd.FK k56 _ _ (⟨(⟨#[101, 121, 101]⟩ : ByteArray), y105⟩ : S56) [.string (⟨#[101, 121, 101]⟩ : ByteArray), .slice Ao6 y105.length co6] from (k56_mkF _ _ (⟨(⟨#[101, 121, 101]⟩ : ByteArray), y105⟩ : S56) (Kd.R_reads' (Kd.R_mono (ok' := (fun k_ => (w.heap.size ≤ k_) ∧ some k_ ≠ (v103 : Value).ownBlock ∧ k_ ≠ gb101)) (Kd.R_types (Kd.R_apart' (HO107.out) (Kd.R_typed HO104.out) zq50) BK101.out zq50) (fun k_ hk => ⟨hk.1.1.1, ⟨hk.1.2, hk.2⟩⟩))).2.1 (Kd.R_F (Kd.R_mono (ok' := (fun k_ => (w.heap.size ≤ k_) ∧ some k_ ≠ (v103 : Value).ownBlock ∧ k_ ≠ gb101)) (Kd.R_types (Kd.R_apart' (HO107.out) (Kd.R_typed HO104.out) zq50) BK101.out zq50) (fun k_ hk => ⟨hk.1.1.1, ⟨hk.1.2, hk.2⟩⟩))))) (Reps.none _ _))); intro v109 w7 ho8 hb hg_ hnew_; clear hg_ hnew_; (first | rw [← Ny108.out] at ho8 | (simp only [Int.reduceToNat] at ho8; rw [← Ny108.out] at ho8)); have n_ := as4 (Kd.R_below (zq1 HO104.out) hb) (Kd.N_lower ho8 (below_size zq11)) (blk_below (zq0 BK101.out) hb) (below_step zq11 hb); clear HO104 BK101 HB HO107; obtain ⟨HO104, HO110, BK101, HB⟩ := n_; clear hb ho8; obtain ⟨Ao9, co9, eo9⟩ := Kd.N_slice HO110.out; subst eo9; obtain ⟨Ao10, co10, eo10⟩ := Kd.R_slice HO104.out; subst eo10; obtain ⟨hcz11_0, hcz11_1, hcz11_2, hfz11_0, hfz11_1, hfz11_2⟩ := bcs3 BK101.out))
 refine bodyPost_ret (results_cell_row rfl _ _ gb101 25 #[.int .i64 100, .slice Ao10 y102.length co10, .slice Ao9 y108.length co9] (0, 0) _ rfl (bch0p BK101.out) Try.underlying25 rfl zq26) rfl ?_
 exact ⟨_, _, zq9, by (with_reducible repeat (first | apply Kd.R_alloc | apply Kd.R_drewN | apply Kd.R_drew)); exact Kd.R_mono (Kd.R_far (p := ⟨gb101, 2, none⟩) (Kd.R_far (p := ⟨gb101, 1, none⟩) (Kd.R_far (p := ⟨gb101, 0, none⟩) (Kd.R_types HO104.out BK101.out zq50) (fun _ hk => hk.2) (.int .i64 100)) (fun _ hk => hk.2) (.slice Ao10 y102.length co10)) (fun _ hk => hk.2) (.slice Ao9 y108.length co9)) (fun _ hk => hk.1.1), by (with_reducible repeat (first | apply Kd.N_alloc | apply Kd.N_drewN | apply Kd.N_drew)); exact Kd.N_mono (Kd.N_far (p := ⟨gb101, 2, none⟩) (Kd.N_far (p := ⟨gb101, 1, none⟩) (Kd.N_far (p := ⟨gb101, 0, none⟩) (Kd.N_mono HO110.out (fun k_ hk => (⟨hk, hk.2.2⟩ : _ ∧ k_ ≠ gb101))) (fun _ hk => hk.2) (.int .i64 100)) (fun _ hk => hk.2) (.slice Ao10 y102.length co10)) (fun _ hk => hk.2) (.slice Ao9 y108.length co9)) (fun _ hk => ⟨hk.1.1, hk.1.2.1⟩), zq11⟩
def culletlaw07_day.f  : Option ((List (S45))) := some (([(⟨10, 2, 0, 0, 0, 0, true⟩ : S45), (⟨20, 1, 7, 0, 0, 0, false⟩ : S45), (⟨60, 2, 0, 0, 0, 0, true⟩ : S45), (⟨70, 1, 8, 0, 0, 0, false⟩ : S45), (⟨90, 2, 0, 0, 0, 0, false⟩ : S45), (⟨95, 1, 9, 0, 0, 0, false⟩ : S45)] : List (S45)))
set_option maxHeartbeats 8000000 in
set_option maxRecDepth 100000 in
theorem culletlaw07_day.calls  (r : List (S45)) (w : World) (h : culletlaw07_day.f  = some r) :
  Calls Try.prog 31 #[] w fun e w' => ∃ v0_ : Value, e = .returned (v0_) ∧ Kd.R k45 45 w' w.heap.size (fun _ => True) v0_ r ∧ Below w.heap.size w w' := by
 have hu45 := Try.underlying45
 have HB := Aside0.mk (Below.refl w.heap.size w)
 have H : (some (([(⟨10, 2, 0, 0, 0, 0, true⟩ : S45), (⟨20, 1, 7, 0, 0, 0, false⟩ : S45), (⟨60, 2, 0, 0, 0, 0, true⟩ : S45), (⟨70, 1, 8, 0, 0, 0, false⟩ : S45), (⟨90, 2, 0, 0, 0, 0, false⟩ : S45), (⟨95, 1, 9, 0, 0, 0, false⟩ : S45)] : List (S45)))) = some r := h
 clear h
 obtain ⟨y111, hy111⟩ : ∃ y_ : List (S45), y_ = (([(⟨10, 2, 0, 0, 0, 0, true⟩ : S45), (⟨20, 1, 7, 0, 0, 0, false⟩ : S45), (⟨60, 2, 0, 0, 0, 0, true⟩ : S45), (⟨70, 1, 8, 0, 0, 0, false⟩ : S45), (⟨90, 2, 0, 0, 0, 0, false⟩ : S45), (⟨95, 1, 9, 0, 0, 0, false⟩ : S45)] : List (S45))) := ⟨_, rfl⟩
 replace H : (some y111) = some r := by first | (rw [hy111]; with_reducible exact H) | (have H2_ := (Option.bind_some _ _).symm.trans H; rw [hy111]; with_reducible exact H2_) | (have H2_ := (Option.bind_some _ _).symm.trans H; with_reducible exact H2_) | with_reducible exact H | (rw [hy111]; exact H) | exact H
 have Ny111 := Aside0.mk hy111
 clear hy111
 obtain rfl := Option.some.inj H
 go_enter Try.func31, Try.ntmps31
 go_wp2_with (first | ((with_reducible refine gate_dst (N := 7) rfl ?_); refine Kd.R_lit k45 _ 45 ?hg (N := 7) ?hd (xs := ([(⟨10, 2, 0, 0, 0, 0, true⟩ : S45), (⟨20, 1, 7, 0, 0, 0, false⟩ : S45), (⟨60, 2, 0, 0, 0, 0, true⟩ : S45), (⟨70, 1, 8, 0, 0, 0, false⟩ : S45), (⟨90, 2, 0, 0, 0, 0, false⟩ : S45), (⟨95, 1, 9, 0, 0, 0, false⟩ : S45)] : List (S45))) (inner := [.int .i64 10, .int .u8 2, .int .i64 0, .int .i64 0, .int .i64 0, .int .i64 0, .bool true, .int .i64 20, .int .u8 1, .int .i64 7, .int .i64 0, .int .i64 0, .int .i64 0, .bool false, .int .i64 60, .int .u8 2, .int .i64 0, .int .i64 0, .int .i64 0, .int .i64 0, .bool true, .int .i64 70, .int .u8 1, .int .i64 8, .int .i64 0, .int .i64 0, .int .i64 0, .bool false, .int .i64 90, .int .u8 2, .int .i64 0, .int .i64 0, .int .i64 0, .int .i64 0, .bool false, .int .i64 95, .int .u8 1, .int .i64 9, .int .i64 0, .int .i64 0, .int .i64 0, .bool false]) (ok := fun _ => True) (okp := fun _ => True) ?hr ?hp (fun _ hk => hk) trivial (Below.refl _ _) (Nat.le_refl _) zq51 ?_; (case hd => rfl); (case hg => rfl); (case hr => exact zq13); (case hp => exact (Reps.c7 (show Kd.M k45 _ _ _ (⟨10, 2, 0, 0, 0, 0, true⟩ : S45) [.int .i64 10, .int .u8 2, .int .i64 0, .int .i64 0, .int .i64 0, .int .i64 0, .bool true] from (k45_mkM _ _ _ (⟨10, 2, 0, 0, 0, 0, true⟩ : S45) )) (Reps.c7 (show Kd.M k45 _ _ _ (⟨20, 1, 7, 0, 0, 0, false⟩ : S45) [.int .i64 20, .int .u8 1, .int .i64 7, .int .i64 0, .int .i64 0, .int .i64 0, .bool false] from (k45_mkM _ _ _ (⟨20, 1, 7, 0, 0, 0, false⟩ : S45) )) (Reps.c7 (show Kd.M k45 _ _ _ (⟨60, 2, 0, 0, 0, 0, true⟩ : S45) [.int .i64 60, .int .u8 2, .int .i64 0, .int .i64 0, .int .i64 0, .int .i64 0, .bool true] from (k45_mkM _ _ _ (⟨60, 2, 0, 0, 0, 0, true⟩ : S45) )) (Reps.c7 (show Kd.M k45 _ _ _ (⟨70, 1, 8, 0, 0, 0, false⟩ : S45) [.int .i64 70, .int .u8 1, .int .i64 8, .int .i64 0, .int .i64 0, .int .i64 0, .bool false] from (k45_mkM _ _ _ (⟨70, 1, 8, 0, 0, 0, false⟩ : S45) )) (Reps.c7 (show Kd.M k45 _ _ _ (⟨90, 2, 0, 0, 0, 0, false⟩ : S45) [.int .i64 90, .int .u8 2, .int .i64 0, .int .i64 0, .int .i64 0, .int .i64 0, .bool false] from (k45_mkM _ _ _ (⟨90, 2, 0, 0, 0, 0, false⟩ : S45) )) (Reps.c7 (show Kd.M k45 _ _ _ (⟨95, 1, 9, 0, 0, 0, false⟩ : S45) [.int .i64 95, .int .u8 1, .int .i64 9, .int .i64 0, .int .i64 0, .int .i64 0, .bool false] from (k45_mkM _ _ _ (⟨95, 1, 9, 0, 0, 0, false⟩ : S45) )) (Reps.none _ _)))))))); intro v112 w1 ho2 hb hg_ hnew_; clear hg_ hnew_; (first | rw [← Ny111.out] at ho2 | (simp only [Int.reduceToNat] at ho2; rw [← Ny111.out] at ho2)); have n_ := as2 (Kd.R_lower ho2 (below_size zq2)) (below_step zq2 hb); clear HB; obtain ⟨HO113, HB⟩ := n_; clear hb ho2))
 go_ret
 exact ⟨_, zq9, (zq1 HO113.out), zq2⟩
end Go.Proofs.Ytbpebehbfpgjbaa.P
end
section
namespace Go.Proofs.Ytbpebehbfpgjbaa.P
open Go.RowKit Go.Proofs.YtbpebehbfpgjbaaW.PrintWords Go.Proofs.YtbpebehbfpgjbaaW.PrintLast Go.Proofs.YtbpebehbfpgjbaaW.PrintMore
set_option linter.unusedVariables false
set_option linter.unusedSimpArgs false
def eyeF : List S58 := [⟨⟨#[99, 114, 97, 99, 107]⟩, 1⟩]
def eyeS : List S56 := [⟨⟨#[101, 121, 101]⟩, [⟨0, 1, 50⟩]⟩]
def dayL : List S45 := [⟨10, 2, 0, 0, 0, 0, true⟩, ⟨20, 1, 7, 0, 0, 0, false⟩, ⟨60, 2, 0, 0, 0, 0, true⟩, ⟨70, 1, 8, 0, 0, 0, false⟩, ⟨90, 2, 0, 0, 0, 0, false⟩, ⟨95, 1, 9, 0, 0, 0, false⟩]
theorem eye_plain (w : World) : Calls Try.prog 30 #[] w fun e w' => ∃ A1 c1 A2 c2, e = .returned (.agg #[.int .i64 100, .slice A1 1 c1, .slice A2 1 c2]) ∧ 1 ≤ c1 ∧ 1 ≤ c2 ∧ Kd.C k58 w' A1 1 eyeF ∧ Kd.C k56 w' A2 1 eyeS ∧ Below w.heap.size w w' :=
 (culletlaw07_eye.calls 100 eyeF eyeS w rfl).mono (by
  rintro e w' ⟨v1, v2, rfl, h1, h2, hb⟩
  obtain ⟨A1, c1, rfl, k1, r1⟩ := Kd.R_reads h1
  obtain ⟨A2, c2, rfl, k2, r2⟩ := Kd.N_reads h2
  exact ⟨A1, c1, A2, c2, rfl, k1, k2, r1, r2, hb⟩)
theorem day_plain (w : World) : Calls Try.prog 31 #[] w fun e w' => ∃ A3 c3, e = .returned (.slice A3 6 c3) ∧ 6 ≤ c3 ∧ Kd.C k45 w' A3 6 dayL ∧ Below w.heap.size w w' :=
 (culletlaw07_day.calls dayL w rfl).mono (by
  rintro e w' ⟨v1, rfl, h1, hb⟩
  obtain ⟨A1, c1, rfl, k1, r1⟩ := Kd.R_reads h1
  exact ⟨A1, c1, rfl, k1, r1, hb⟩)
section
variable (A1 : Option Addr) (c1 : Nat) (A2 : Option Addr) (c2 : Nat) (A3 : Option Addr) (c3 : Nat) (w : World) (k1 : 1 ≤ c1) (k2 : 1 ≤ c2) (k3 : 6 ≤ c3) (h1 : Kd.C k58 w A1 1 eyeF) (h2 : Kd.C k56 w A2 1 eyeS) (h3 : Kd.C k45 w A3 6 dayL)
include k1 k2 k3 h1 h2 h3
theorem look1 : Calls Try.prog 21 #[.agg #[.int .i64 100, .slice A1 1 c1, .slice A2 1 c2], .slice A3 6 c3, .int .i64 1] w fun e w' => e = .returned (.tuple #[.int .u8 2, .int .i64 (-1), .int .i64 0]) ∧ Below w.heap.size w w' :=
 inspect_Judge.calls 100 A1 c1 eyeF A2 c2 eyeS A3 c3 dayL 1 2 (-1) 0 w h1 k1 h2 k2 h3 k3 zq26
theorem look3 : Calls Try.prog 21 #[.agg #[.int .i64 100, .slice A1 1 c1, .slice A2 1 c2], .slice A3 6 c3, .int .i64 3] w fun e w' => e = .returned (.tuple #[.int .u8 3, .int .i64 0, .int .i64 0]) ∧ Below w.heap.size w w' :=
 inspect_Judge.calls 100 A1 c1 eyeF A2 c2 eyeS A3 c3 dayL 3 3 0 0 w h1 k1 h2 k2 h3 k3 zq26
theorem look5 : Calls Try.prog 21 #[.agg #[.int .i64 100, .slice A1 1 c1, .slice A2 1 c2], .slice A3 6 c3, .int .i64 5] w fun e w' => e = .returned (.tuple #[.int .u8 3, .int .i64 0, .int .i64 0]) ∧ Below w.heap.size w w' :=
 inspect_Judge.calls 100 A1 c1 eyeF A2 c2 eyeS A3 c3 dayL 5 3 0 0 w h1 k1 h2 k2 h3 k3 zq26
theorem lookB : Calls Try.prog 12 #[.agg #[.int .i64 100, .slice A1 1 c1, .slice A2 1 c2], .slice A3 6 c3] w fun e w' => ∃ A c, e = .returned (.tuple #[.slice A 2 c, .int .i64 0]) ∧ Kd.C (Kd.int .i64) w' A 2 [3, 5] ∧ Below w.heap.size w w' :=
 (inspect_Blocked.calls 100 A1 c1 eyeF A2 c2 eyeS A3 c3 dayL [3, 5] 0 w h1 k1 h2 k2 h3 k3 zq26).mono (by
  rintro e w' ⟨v, rfl, h, hb⟩
  obtain ⟨A, c, rfl, _, r⟩ := Kd.R_reads h
  exact ⟨A, c, rfl, r, hb⟩)
theorem lookM : Calls Try.prog 15 #[.agg #[.int .i64 100, .slice A1 1 c1, .slice A2 1 c2], .slice A3 6 c3, .int .i64 0] w fun e w' => e = .returned (.tuple #[.agg #[.int .i64 1, .int .i64 50], .int .i64 1, .int .i64 0]) ∧ Below w.heap.size w w' :=
 inspect_Missed.calls 100 A1 c1 eyeF A2 c2 eyeS A3 c3 dayL 0 1 50 1 0 w h1 k1 h2 k2 h3 k3 zq26
theorem lookL : Calls Try.prog 17 #[.agg #[.int .i64 100, .slice A1 1 c1, .slice A2 1 c2], .slice A3 6 c3] w fun e w' => ∃ A c A' c' A'' c'', e = .returned (.tuple #[.slice A 1 c, .slice A' 2 c', .slice A'' 0 c'', .int .i64 0]) ∧ Kd.C (Kd.int .i64) w' A 1 [7] ∧ Kd.C (Kd.int .i64) w' A' 2 [8, 9] ∧ Below w.heap.size w w' :=
 (inspect_Lots.calls 100 A1 c1 eyeF A2 c2 eyeS A3 c3 dayL [7] [8, 9] [] 0 w h1 k1 h2 k2 h3 k3 zq26).mono (by
  rintro e w' ⟨v, v', v'', rfl, h, h', h'', hb⟩
  obtain ⟨A, c, rfl, _, r⟩ := Kd.R_reads h
  obtain ⟨A', c', rfl, _, r'⟩ := Kd.R_reads h'
  obtain ⟨A'', c'', rfl, _, r''⟩ := Kd.R_reads h''
  exact ⟨A, c, A', c', A'', c'', rfl, r, r', hb⟩)
end
theorem C_at0 {w : World} {A : Option Addr} {n : Nat} {xs : List Int} (h : Kd.C (Kd.int .i64) w A n xs) (i : Nat) (hi : i < n) : ∃ ad, A = some ad ∧ w.cell? (ad.add i) = some (.int .i64 (xs.getD i 0)) := by
 obtain ⟨ad, cs, rfl, _, hK, hc0⟩ := Kd.C_get h (0 : Int) (i : Int) zq18 zq18
 obtain rfl : cs = [.int .i64 (xs.getD (i : Int).toNat 0)] := hK
 have hx := hc0 0 _ rfl
 simp only [show (Kd.int .i64).sz = 1 from rfl, Nat.mul_one, Nat.add_zero, Int.toNat_natCast] at hx
 exact ⟨ad, rfl, hx⟩
theorem C_atz {w : World} {A : Option Addr} {n : Nat} {xs : List Int} (h : Kd.C (Kd.int .i64) w A n xs) (hi : 0 < n) : ∃ ad, A = some ad ∧ w.cell? ad = some (.int .i64 (xs.getD 0 0)) := by
 obtain ⟨ad, e, hx⟩ := C_at0 h 0 hi
 exact ⟨ad, e, hx⟩
theorem C_at1 {w : World} {A : Option Addr} {n : Nat} {xs : List Int} (h : Kd.C (Kd.int .i64) w A n xs) (hi : 1 < n) : ∃ ad, A = some ad ∧ w.cell? ⟨ad.block, ad.off + 1, none⟩ = some (.int .i64 (xs.getD 1 0)) := by
 obtain ⟨ad, e, hx⟩ := C_at0 h 1 hi
 refine ⟨ad, e, ?_⟩
 have hf := add_field ad 0 1 zq18
 rw [show (0 + 1 : Nat) = 1 from rfl] at hf
 rw [hf] at hx
 exact hx
def culletlaw07_looks.f : Option Bool := some true
set_option maxHeartbeats 16000000 in
set_option maxRecDepth 100000 in
theorem culletlaw07_looks.calls (r : Bool) (w : World) (h : culletlaw07_looks.f = some r) : Calls Try.prog 11 #[] w fun e w' => e = .returned (.bool r) ∧ Below w.heap.size w w' := by
 obtain rfl : true = r := Option.some.inj h
 clear h
 have HB := Aside0.mk (Below.refl w.heap.size w)
 go_enter Try.func11, Try.ntmps11
 go_wp2_with (first
  | (go_at_call 30; (with_reducible refine (eye_plain _).mono ?_); rintro e w1 ⟨A1, c1, A2, c2, rfl, k1, k2, q1, q2, hb⟩; have K1 := Aside0.mk k1; have K2 := Aside0.mk k2; have Q1 := Aside0.mk q1; have Q2 := Aside0.mk q2; have HB := Aside0.mk (below_step HB.out hb); (try have HL := Aside0.mk (Kd.C_below HL.out hb)); (try have HR := Aside0.mk (blk_below HR.out hb)); clear k1 k2 q1 q2 hb)
  | (go_at_call 31; (with_reducible refine (day_plain _).mono ?_); rintro e w2 ⟨A3, c3, rfl, k3, q3, hb⟩; have K3 := Aside0.mk k3; have Q1 := Aside0.mk (Kd.C_below Q1.out hb); have Q2 := Aside0.mk (Kd.C_below Q2.out hb); have Q3 := Aside0.mk q3; have HB := Aside0.mk (below_step HB.out hb); (try have HL := Aside0.mk (Kd.C_below HL.out hb)); (try have HR := Aside0.mk (blk_below HR.out hb)); clear k3 q3 hb)
  | (go_at_call 21; (with_reducible refine (look1 A1 c1 A2 c2 A3 c3 _ K1.out K2.out K3.out Q1.out Q2.out Q3.out).mono ?_); rintro e w3 ⟨rfl, hb⟩; have HB := Aside0.mk (below_step HB.out hb); (try have HL := Aside0.mk (Kd.C_below HL.out hb)); (try have HR := Aside0.mk (blk_below HR.out hb)); clear hb)
  | (go_at_call 21; (with_reducible refine (look3 A1 c1 A2 c2 A3 c3 _ K1.out K2.out K3.out Q1.out Q2.out Q3.out).mono ?_); rintro e w3 ⟨rfl, hb⟩; have HB := Aside0.mk (below_step HB.out hb); (try have HL := Aside0.mk (Kd.C_below HL.out hb)); (try have HR := Aside0.mk (blk_below HR.out hb)); clear hb)
  | (go_at_call 21; (with_reducible refine (look5 A1 c1 A2 c2 A3 c3 _ K1.out K2.out K3.out Q1.out Q2.out Q3.out).mono ?_); rintro e w3 ⟨rfl, hb⟩; have HB := Aside0.mk (below_step HB.out hb); (try have HL := Aside0.mk (Kd.C_below HL.out hb)); (try have HR := Aside0.mk (blk_below HR.out hb)); clear hb)
  | (go_at_call 12; (with_reducible refine (lookB A1 c1 A2 c2 A3 c3 _ K1.out K2.out K3.out Q1.out Q2.out Q3.out).mono ?_); rintro e w3 ⟨AB, cB, rfl, qB, hb⟩; have HL := Aside0.mk qB; have HB := Aside0.mk (below_step HB.out hb); clear qB hb)
  | (go_at_call 15; (with_reducible refine (lookM A1 c1 A2 c2 A3 c3 _ K1.out K2.out K3.out Q1.out Q2.out Q3.out).mono ?_); rintro e wM ⟨rfl, hb⟩; have HL := Aside0.mk (Kd.C_below (Kd.C_below HL.out hb) ((Below.refl _ wM).alloc (Nat.le_refl _) (.cells #[.int .i64 1, .int .i64 50] 35))); have HB := Aside0.mk ((below_step HB.out hb).alloc (below_step HB.out hb).size (.cells #[.int .i64 1, .int .i64 50] 35)); have HR := Aside0.mk (blk_new wM (.cells #[.int .i64 1, .int .i64 50] 35)); clear hb)
  | (go_at_call 17; (with_reducible refine (lookL A1 c1 A2 c2 A3 c3 _ K1.out K2.out K3.out Q1.out Q2.out Q3.out).mono ?_); rintro e wL ⟨AP, cP, AQ, cQ, AO, cO, rfl, qP, qQ, hb⟩; have HL := Aside0.mk (Kd.C_below HL.out hb); have HR := Aside0.mk (blk_below HR.out hb); have HB := Aside0.mk (below_step HB.out hb); obtain ⟨adB, rfl, x0⟩ := C_atz HL.out zq50; obtain ⟨adB', eB, x1⟩ := C_at1 HL.out zq50; cases eB; obtain ⟨adP, rfl, x2⟩ := C_atz qP zq50; obtain ⟨adQ, rfl, x3⟩ := C_atz qQ zq50; obtain ⟨adQ', eQ, x4⟩ := C_at1 qQ zq50; cases eQ; have x5 := (blk_cell HR.out 0).trans (rfl : _ = some (Value.int .i64 1)); have x6 := (blk_cell HR.out 1).trans (rfl : _ = some (Value.int .i64 50)); simp only [List.getD_cons_zero, List.getD_cons_succ] at x0 x1 x2 x3 x4; clear qP qQ hb))
 all_goals (go_ret; exact ⟨rfl, HB.out⟩)
theorem many_l1 (a0 : Int) (fl : List S58) (st : List S56) (h : st.length ≤ 20) : ∀ r i k (n : Int), i + r = st.length → r < k → ∃ b, culletlaw07_many.l1 k n (i : Int) a0 fl st = some b
 | 0, i, k, n, hi, hk => by
  obtain ⟨k, rfl⟩ : ∃ m, k = m + 1 := ⟨k - 1, zq18⟩
  rw [culletlaw07_many.l1, if_neg zq18]
  exact ⟨_, rfl⟩
 | r + 1, i, k, n, hi, hk => by
  obtain ⟨k, rfl⟩ : ∃ m, k = m + 1 := ⟨k - 1, zq18⟩
  rw [culletlaw07_many.l1, if_pos zq18, if_pos zq18, wsucc i zq18]
  exact many_l1 a0 fl st h r (i + 1) k _ zq18 zq18
theorem many_l0 (a0 : Int) (fl : List S58) (st : List S56) (hf : fl.length ≤ 20) (h : st.length ≤ 20) : ∀ r i k (n : Int), i + r = fl.length → r + 22 < k → ∃ b, culletlaw07_many.l0 k n (i : Int) a0 fl st = some b
 | 0, i, k, n, hi, hk => by
  obtain ⟨k, rfl⟩ : ∃ m, k = m + 1 := ⟨k - 1, zq18⟩
  rw [culletlaw07_many.l0, if_neg zq18]
  exact many_l1 a0 fl st h st.length 0 k n zq18 zq18
 | r + 1, i, k, n, hi, hk => by
  obtain ⟨k, rfl⟩ : ∃ m, k = m + 1 := ⟨k - 1, zq18⟩
  rw [culletlaw07_many.l0, if_pos zq18, if_pos zq18, wsucc i zq18]
  exact many_l0 a0 fl st hf h r (i + 1) k _ zq18 zq18
theorem many_some (a0 : Int) (fl : List S58) (st : List S56) (l : List S45) (k : Nat) (hk : 60 ≤ k) : ∃ b, culletlaw07_many.f k a0 fl st l = some b ∧ (b = false → fl.length ≤ 20 ∧ st.length ≤ 20 ∧ l.length ≤ 600) := by
 obtain ⟨k, rfl⟩ : ∃ m, k = m + 1 := ⟨k - 1, zq18⟩
 have ht : culletlaw07_many.j0 (k + 1) true a0 fl st = some true := by rw [culletlaw07_many.j0, if_pos rfl]
 unfold culletlaw07_many.f
 by_cases h1 : (fl.length : Int) > 20
 ·rw [if_pos h1, ht]
  exact ⟨true, rfl, fun h => by cases h⟩
 ·rw [if_neg h1]
  by_cases h2 : (st.length : Int) > 20
  ·rw [if_pos h2, ht]
   exact ⟨true, rfl, fun h => by cases h⟩
  ·rw [if_neg h2]
   have hf : ∃ b, culletlaw07_many.j0 (k + 1) false a0 fl st = some b := by
    rw [culletlaw07_many.j0, if_neg zq50]
    exact many_l0 a0 fl st zq18 zq18 fl.length 0 k 0 zq18 zq18
   have hlast : ∃ b, culletlaw07_many.j0 (k + 1) (decide ((l.length : Int) > 600)) a0 fl st = some b ∧ (b = false → fl.length ≤ 20 ∧ st.length ≤ 20 ∧ l.length ≤ 600) := by
    by_cases h3 : (l.length : Int) > 600
    ·rw [decide_eq_true h3, ht]
     exact ⟨true, rfl, fun h => by cases h⟩
    ·rw [decide_eq_false h3]
     obtain ⟨b, hb⟩ := hf
     exact ⟨b, hb, fun _ => by omega⟩
   by_cases h4 : (l.length : Int) > 40
   ·rw [if_pos h4]
    by_cases h5 : (l.length : Int) ≤ 512
    ·rw [if_pos h5, ht]
     exact ⟨true, rfl, fun h => by cases h⟩
    ·rw [if_neg h5]
     exact hlast
   ·rw [if_neg h4]
    exact hlast
end Go.Proofs.Ytbpebehbfpgjbaa.P
end
section
namespace Go.Proofs.Ytbpebehbfpgjbaa.P
open Go.RowKit Go.Proofs.YtbpebehbfpgjbaaW.PrintWords Go.Proofs.YtbpebehbfpgjbaaW.PrintLast Go.Proofs.YtbpebehbfpgjbaaW.PrintMore
set_option linter.unusedVariables false
set_option linter.unusedSimpArgs false
theorem lhas_l0 (L : List Int) (n : Int) (hL : L.length ≤ 1000) : ∀ r i k, i + r = L.length → r < k → culletlaw07_has.l0 k L n (i : Int) = some ((L.drop i).any (fun x => x == n))
 | 0, i, k, h, hk => by
  obtain ⟨k, rfl⟩ : ∃ m, k = m + 1 := ⟨k - 1, zq18⟩
  have hi : i = L.length := by omega
  subst hi
  rw [culletlaw07_has.l0, if_neg zq18, List.drop_length]
  rfl
 | r + 1, i, k, h, hk => by
  obtain ⟨k, rfl⟩ : ∃ m, k = m + 1 := ⟨k - 1, zq18⟩
  have hi : i < L.length := by omega
  rw [culletlaw07_has.l0, if_pos zq18, if_pos zq18, rd_nat L i hi, List.drop_eq_getElem_cons hi, List.any_cons]
  by_cases h1 : L[i] = n
  ·rw [if_pos h1, show (L[i] == n) = true from by simpa using h1]
   rfl
  ·rw [if_neg h1, show (L[i] == n) = false from by simpa using h1, wsucc i zq18, lhas_l0 L n hL r (i + 1) k zq18 zq18, Bool.false_or]
theorem lhas_eq (L : List Int) (n : Int) (hL : L.length ≤ 1000) : culletlaw07_has.f 1001 L n = some (L.any (fun x => x == n)) :=
 lhas_l0 L n hL L.length 0 1001 zq18 zq18
theorem has_plain (A : Option Addr) (c : Nat) (L : List Int) (n : Int) (b : Bool) (w : World) (hr : Kd.C (Kd.int .i64) w A L.length L) (hc : L.length ≤ c) (hL : L.length ≤ 1000) (hb : L.any (fun x => x == n) = b) :
  Calls Try.prog 24 #[.slice A L.length c, .int .i64 n] w fun e w' => e = .returned (.bool b) ∧ ∃ nd, w' = w.drewN nd :=
 (culletlaw07_has.calls 1001 A c L n b w hr hc (by rw [lhas_eq L n hL, hb])).mono (by rintro e w' ⟨rfl, ⟨nd, rfl⟩⟩; exact ⟨rfl, nd, rfl⟩)
theorem any_filter (L : List Int) (p : Int → Bool) (n : Int) (h : n ∈ L) : (L.filter p).any (fun x => x == n) = p n := by
 rw [Bool.eq_iff_iff, List.any_eq_true]
 constructor
 ·rintro ⟨x, hx, he⟩
  have : x = n := by simpa using he
  subst this
  exact (List.mem_filter.1 hx).2
 ·intro hp
  exact ⟨n, List.mem_filter.2 ⟨h, hp⟩, zq51⟩
theorem state_val (every : Int) (fl : List S58) (st : List S56) (l : List S45) (n : Int) : lotState every fl st l n = 3 ∨ lotState every fl st l n = 0 ∨ lotState every fl st l n = 2 := by
 unfold lotState stateS
 split
 ·exact .inl rfl
 ·split
  ·exact .inr (.inl rfl)
  ·exact .inr (.inr rfl)
section
variable {every : Int} {fl : List S58} {st : List S56} {l : List S45}
theorem kept_facts {i : Nat} (hi : i < l.length) (hk : keptB l i = true) :
  (l.getD i z45).f2 ∈ lotsP l l.length ∧ (lotState every fl st l (l.getD i z45).f2 = 2 → vdS every fl st l i = 2) ∧ (vdS every fl st l i = 3 → lotState every fl st l (l.getD i z45).f2 = 3) := by
 refine ⟨(lotsP_mem l _ _).2 ⟨i, hi, hk, rfl⟩, fun h => ?_, fun h => ?_⟩
 ·obtain ⟨h3, h0⟩ := (state_2 every fl st l _).1 h
  rcases vdS_kept (every := every) (fl := fl) (st := st) hk with h | h | h
  ·exact absurd ⟨i, hi, rfl, h⟩ h0
  ·exact h
  ·exact absurd ⟨i, hi, rfl, h⟩ h3
 ·exact (state_3 every fl st l _).2 ⟨i, hi, rfl, h⟩
theorem pos_any (v : Int) (i n : Nat) (hi : i < n) : (posP every fl st l v n).any (fun x => x == (i : Int)) = (vdS every fl st l i == v) := by
 rw [Bool.eq_iff_iff, List.any_eq_true, beq_iff_eq]
 constructor
 ·rintro ⟨x, hx, he⟩
  have : x = (i : Int) := by simpa using he
  subst this
  obtain ⟨j, h1, h2, h3⟩ := (posP_mem every fl st l v _ n).1 hx
  have : j = i := by omega
  subst this
  exact h3
 ·intro hv
  exact ⟨i, (posP_mem every fl st l v _ n).2 ⟨i, hi, rfl, hv⟩, zq51⟩
end
theorem judge_plain (a0_0 : Int) (A0_1 : Option Addr) (c0_1 : Nat) (l0_1 : List S58) (A0_2 : Option Addr) (c0_2 : Nat) (l0_2 : List S56) (A1 : Option Addr) (c1 : Nat) (l1 : List S45) (w : World)
  (hr0_1 : Kd.C k58 w A0_1 l0_1.length l0_1) (hc0_1 : l0_1.length ≤ c0_1) (hr0_2 : Kd.C k56 w A0_2 l0_2.length l0_2) (hc0_2 : l0_2.length ≤ c0_2) (hr1 : Kd.C k45 w A1 l1.length l1) (hc1 : l1.length ≤ c1)
  (hl : logS a0_0 l0_1 l0_2 l1 = 0) (i : Nat) (hi : i < l1.length) (hk : (l1.getD i z45).f1 = 1) (W : World) (hW : Below w.heap.size w W) :
  Calls Try.prog 21 #[.agg #[.int .i64 a0_0, .slice A0_1 l0_1.length c0_1, .slice A0_2 l0_2.length c0_2], .slice A1 l1.length c1, .int .i64 (i : Int)] W fun e w' =>
   e = .returned (.tuple #[.int .u8 (vdS a0_0 l0_1 l0_2 l1 i), .int .i64 (judgeS a0_0 l0_1 l0_2 l1 i).2, .int .i64 0]) ∧ Below W.heap.size W w' :=
 inspect_Judge.calls a0_0 A0_1 c0_1 l0_1 A0_2 c0_2 l0_2 A1 c1 l1 i _ _ 0 W (Kd.C_below hr0_1 hW) hc0_1 (Kd.C_below hr0_2 hW) hc0_2 (Kd.C_below hr1 hW) hc1 (by
  unfold inspect_Judge.f
  rw [judgeF_ok hl i hi hk]
  have : vdS a0_0 l0_1 l0_2 l1 i = (judgeS a0_0 l0_1 l0_2 l1 i).1 := by unfold vdS; rw [if_pos hk]
  rw [this])
def b2i (b : Bool) : Int := if b = true then 1 else 0
def cntB (p q o : Bool) (k : Int) : Int := (if k > 0 then b2i p else 0) + (if k > 1 then b2i q else 0) + (if k > 2 then b2i o else 0)
theorem b2i_b (b : Bool) : 0 ≤ b2i b ∧ b2i b ≤ 1 := by cases b <;> decide
theorem cntB_0 (p q o : Bool) : cntB p q o 0 = 0 := by cases p <;> cases q <;> cases o <;> rfl
theorem cntB_1 (p q o : Bool) : cntB p q o 1 = b2i p := by cases p <;> cases q <;> cases o <;> rfl
theorem cntB_2 (p q o : Bool) : cntB p q o 2 = b2i p + b2i q := by cases p <;> cases q <;> cases o <;> rfl
theorem cntB_3 (p q o : Bool) : cntB p q o 3 = b2i p + b2i q + b2i o := by cases p <;> cases q <;> cases o <;> rfl
set_option maxHeartbeats 8000000 in
set_option maxRecDepth 100000 in
theorem lots_walk (a0_0 : Int) (A0_1 : Option Addr) (c0_1 : Nat) (l0_1 : List S58) (A0_2 : Option Addr) (c0_2 : Nat) (l0_2 : List S56) (A1 : Option Addr) (c1 : Nat) (l1 : List S45) (w : World)
  (hr0_1 : Kd.C k58 w A0_1 l0_1.length l0_1) (hc0_1 : l0_1.length ≤ c0_1) (hr0_2 : Kd.C k56 w A0_2 l0_2.length l0_2) (hc0_2 : l0_2.length ≤ c0_2) (hr1 : Kd.C k45 w A1 l1.length l1) (hc1 : l1.length ≤ c1) :
  Calls Try.prog 6 #[.agg #[.int .i64 a0_0, .slice A0_1 l0_1.length c0_1, .slice A0_2 l0_2.length c0_2], .slice A1 l1.length c1] w fun e w' => e = .returned (.bool true) ∧ Below w.heap.size w w' := by
 have hb1 := (Below.refl w.heap.size w).alloc (Nat.le_refl _) (.cells #[.int .i64 a0_0, .slice A0_1 l0_1.length c0_1, .slice A0_2 l0_2.length c0_2] 25)
 obtain ⟨b, hb, hbig⟩ := many_some a0_0 l0_1 l0_2 l1 60 zq18
 have hmany := culletlaw07_many.calls 60 a0_0 A0_1 c0_1 l0_1 A0_2 c0_2 l0_2 A1 c1 l1 b _ (Kd.C_below hr0_1 hb1) hc0_1 (Kd.C_below hr0_2 hb1) hc0_2 (Kd.C_below hr1 hb1) hc1 hb
 have HB1 := Aside0.mk hb1
 have HC1 := Aside0.mk (blk_new w (.cells #[.int .i64 a0_0, .slice A0_1 l0_1.length c0_1, .slice A0_2 l0_2.length c0_2] 25))
 have hlooks := fun W => culletlaw07_looks.calls true W rfl
 cases b
 ·have hln := (hbig rfl).2.2
  have hlots := fun (W : World) (hW : Below w.heap.size w W) => inspect_Lots.calls a0_0 A0_1 c0_1 l0_1 A0_2 c0_2 l0_2 A1 c1 l1 _ _ _ _ W (Kd.C_below hr0_1 hW) hc0_1 (Kd.C_below hr0_2 hW) hc0_2 (Kd.C_below hr1 hW) hc1 (show inspect_Lots.f a0_0 l0_1 l0_2 l1 = some ((lotsF a0_0 l0_1 l0_2 l1).1, (lotsF a0_0 l0_1 l0_2 l1).2.1, (lotsF a0_0 l0_1 l0_2 l1).2.2.1, (lotsF a0_0 l0_1 l0_2 l1).2.2.2) from rfl)
  have hblk := fun (W : World) (hW : Below w.heap.size w W) => inspect_Blocked.calls a0_0 A0_1 c0_1 l0_1 A0_2 c0_2 l0_2 A1 c1 l1 _ _ W (Kd.C_below hr0_1 hW) hc0_1 (Kd.C_below hr0_2 hW) hc0_2 (Kd.C_below hr1 hW) hc1 (show inspect_Blocked.f a0_0 l0_1 l0_2 l1 = some ((blockedF a0_0 l0_1 l0_2 l1).1, (blockedF a0_0 l0_1 l0_2 l1).2) from rfl)
  by_cases h0 : logS a0_0 l0_1 l0_2 l1 = 0
  ·have hv := logS_valid h0
   have hjudge := judge_plain a0_0 A0_1 c0_1 l0_1 A0_2 c0_2 l0_2 A1 c1 l1 w hr0_1 hc0_1 hr0_2 hc0_2 hr1 hc1 h0
   have eL : lotsF a0_0 l0_1 l0_2 l1 = ((lotsP l1 l1.length).filter (fun m => lotState a0_0 l0_1 l0_2 l1 m == 2), (lotsP l1 l1.length).filter (fun m => lotState a0_0 l0_1 l0_2 l1 m == 3), (lotsP l1 l1.length).filter (fun m => !(lotState a0_0 l0_1 l0_2 l1 m == 2) && !(lotState a0_0 l0_1 l0_2 l1 m == 3)), 0) := by
    unfold lotsF; rw [if_neg (fun hh => hh h0)]
   have eB : blockedF a0_0 l0_1 l0_2 l1 = (posP a0_0 l0_1 l0_2 l1 3 l1.length, 0) := by
    unfold blockedF; rw [if_neg (fun hh => hh h0)]
   rw [eL] at hlots
   rw [eB] at hblk
   simp only at hlots hblk
   clear eL eB
   obtain ⟨LP, hLP⟩ : ∃ L, (lotsP l1 l1.length).filter (fun m => lotState a0_0 l0_1 l0_2 l1 m == 2) = L := ⟨_, rfl⟩
   obtain ⟨LQ, hLQ⟩ : ∃ L, (lotsP l1 l1.length).filter (fun m => lotState a0_0 l0_1 l0_2 l1 m == 3) = L := ⟨_, rfl⟩
   obtain ⟨LO, hLO⟩ : ∃ L, (lotsP l1 l1.length).filter (fun m => !(lotState a0_0 l0_1 l0_2 l1 m == 2) && !(lotState a0_0 l0_1 l0_2 l1 m == 3)) = L := ⟨_, rfl⟩
   obtain ⟨LB, hLB⟩ : ∃ L, posP a0_0 l0_1 l0_2 l1 3 l1.length = L := ⟨_, rfl⟩
   rw [hLP, hLQ, hLO] at hlots
   rw [hLB] at hblk
   have sP : LP.Pairwise (· < ·) := by rw [← hLP]; exact (lotsP_sorted l1 _).filter _
   have sQ : LQ.Pairwise (· < ·) := by rw [← hLQ]; exact (lotsP_sorted l1 _).filter _
   have sO : LO.Pairwise (· < ·) := by rw [← hLO]; exact (lotsP_sorted l1 _).filter _
   have hlen := hv.len
   have nl : (lotsP l1 l1.length).length ≤ 512 := Nat.le_trans (lotsP_len l1 _) hlen
   have nP : LP.length ≤ 512 := by rw [← hLP]; exact Nat.le_trans (List.length_filter_le _ _) nl
   have nQ : LQ.length ≤ 512 := by rw [← hLQ]; exact Nat.le_trans (List.length_filter_le _ _) nl
   have nO : LO.length ≤ 512 := by rw [← hLO]; exact Nat.le_trans (List.length_filter_le _ _) nl
   have nB : LB.length ≤ 512 := by rw [← hLB]; exact Nat.le_trans (posP_len _ _ _ _ _ _) hlen
   have HR1 := Aside0.mk hr1
   have HN := Aside0.mk (And.intro nP (And.intro nQ (And.intro nO nB)))
   have HS := Aside0.mk (And.intro sP (And.intro sQ sO))
   have HL := Aside0.mk (And.intro hLP (And.intro hLQ (And.intro hLO hLB)))
   have HLEN := Aside0.mk hlen
   clear hr0_1 hr0_2 hr1 h0 hv hbig hb hb1 sP sQ sO nP nQ nO nB hLP hLQ hLO hLB nl hlen hln
   go_enter Try.func6, Try.ntmps6
   go_wp2_with (first
    | (go_at_call 10; (with_reducible refine hmany.mono ?_); rintro e w1 ⟨rfl, hb⟩; have HB2 := Aside0.mk (below_step HB1.out hb); have HC2 := Aside0.mk (blk_below HC1.out hb); have hc00 : w1.cell? ⟨w.heap.size, 0, none⟩ = some (.int .i64 a0_0) := (blk_cell HC2.out 0).trans rfl; have hc01 : w1.cell? ⟨w.heap.size, 1, none⟩ = some (.slice A0_1 l0_1.length c0_1) := (blk_cell HC2.out 1).trans rfl; have hc02 : w1.cell? ⟨w.heap.size, 2, none⟩ = some (.slice A0_2 l0_2.length c0_2) := (blk_cell HC2.out 2).trans rfl; clear hb)
    | (go_at_call 17; (with_reducible refine (hlots _ HB2.out).mono ?_); rintro e w2 ⟨v0, v1, v2, rfl, q0, q1, q2, hb⟩; obtain ⟨AP, cP, e1, hcP, gP⟩ := Kd.R_reads q0; obtain ⟨AQ, cQ, e2, hcQ, gQ⟩ := Kd.R_reads q1; obtain ⟨AO, cO, e3, hcO, gO⟩ := Kd.R_reads q2; subst e1 e2 e3; have HB3 := Aside0.mk (below_step HB2.out hb); have HC3 := Aside0.mk (blk_below HC2.out hb); have GP := Aside0.mk gP; have GQ := Aside0.mk gQ; have GO := Aside0.mk gO; have MP := Aside0.mk hcP; have MQ := Aside0.mk hcQ; have MO := Aside0.mk hcO; clear hb q0 q1 q2 gP gQ gO hcP hcQ hcO; have hd00 : w2.cell? ⟨w.heap.size, 0, none⟩ = some (.int .i64 a0_0) := (blk_cell HC3.out 0).trans rfl; have hd01 : w2.cell? ⟨w.heap.size, 1, none⟩ = some (.slice A0_1 l0_1.length c0_1) := (blk_cell HC3.out 1).trans rfl; have hd02 : w2.cell? ⟨w.heap.size, 2, none⟩ = some (.slice A0_2 l0_2.length c0_2) := (blk_cell HC3.out 2).trans rfl)
    | (go_at_call 12; (with_reducible refine (hblk _ HB3.out).mono ?_); rintro e w3 ⟨v3, rfl, q3, hb⟩; obtain ⟨AB, cB, e1, hcB, gB⟩ := Kd.R_reads q3; subst e1; have HB4 := Aside0.mk (below_step HB3.out hb); have HC4 := Aside0.mk (blk_below HC3.out hb); have GB := Aside0.mk gB; have MB := Aside0.mk hcB; have GP := Aside0.mk (Kd.C_below GP.out hb); have GQ := Aside0.mk (Kd.C_below GQ.out hb); have GO := Aside0.mk (Kd.C_below GO.out hb); clear hb q3 gB hcB))
   clear hc00 hc01 hc02 hd00 hd01 hd02 hmany hlots hblk
   go_loopg [11, 12, 13, 14, 15, 16, 17] l1.length (fun gg s11 s12 s13 s14 s15 s16 s17 wr => ∃ (i : Nat), s12 = .int .i64 (i : Int) ∧ s11 = .int .i64 ((posP a0_0 l0_1 l0_2 l1 3 i).length : Int) ∧ Aside0 (i ≤ l1.length ∧ l1.length - i ≤ gg) ∧ Aside0 (Below w3.heap.size w3 wr))
   case atStart => exact ⟨0, rfl, rfl, ⟨zq18, zq18⟩, ⟨Below.refl _ _⟩⟩
   case round =>
    obtain ⟨i, rfl, rfl, hi, HB⟩ := hrel
    by_cases hlt : i < l1.length
    ·have hb0 : decide (i < l1.length) = true := decide_eq_true hlt
     have hq0 : 0 ≤ (i : Int) := by omega
     have hq1 : (i : Int) ≤ 511 := by have := HLEN.out; omega
     have HBr := Aside0.mk (below_step HB4.out HB.out)
     obtain ⟨ad, rfl, hx0, hx1, hx2, hx3, hx4, hx5, hx6⟩ := at_T45 HR1.out (i : Int) hq0 zq18
     have hr : rd_T45 l1 (i : Int) = l1.getD i z45 := rfl
     rw [hr] at hx0 hx1 hx2 hx3 hx4 hx5 hx6
     simp only [Int.toNat_natCast] at hx1 hx2 hx6
     have HX1 := Aside0.mk ((HBr.out.cell (World.block_lt_of_cell? w _ hx1)).trans hx1)
     have HX2 := Aside0.mk ((HBr.out.cell (World.block_lt_of_cell? w _ hx2)).trans hx2)
     have HX6 := Aside0.mk ((HBr.out.cell (World.block_lt_of_cell? w _ hx6)).trans hx6)
     have hlt' := hlt
     have hlt2 : decide ((i : Int) < (l1.length : Int)) = true := decide_eq_true zq18
     clear hx0 hx1 hx2 hx3 hx4 hx5 hx6 hr
     have hpn : ∀ x, x = vdS a0_0 l0_1 l0_2 l1 i → (posP a0_0 l0_1 l0_2 l1 3 (i + 1)).length = if x = 3 then (posP a0_0 l0_1 l0_2 l1 3 i).length + 1 else (posP a0_0 l0_1 l0_2 l1 3 i).length := fun x hx => by
      rw [hx, posP]
      split
      ·simp
      ·rfl
     have HPL := Aside0.mk (Nat.le_trans (posP_len a0_0 l0_1 l0_2 l1 3 i) (show i ≤ 511 by omega))
     by_cases hk : keptB l1 i = true
     ·have hkk := hk
      unfold keptB at hkk
      rw [Bool.and_eq_true] at hkk
      have h1 : (l1.getD i z45).f1 = 1 := by simpa using hkk.1
      have h6 : (l1.getD i z45).f6 = false := by simpa using hkk.2
      obtain ⟨f1, f2, f3⟩ := kept_facts (every := a0_0) (fl := l0_1) (st := l0_2) hlt hk
      have hv3 := vdS_kept (every := a0_0) (fl := l0_1) (st := l0_2) hk
      have hju := hjudge i hlt h1 wr HBr.out
      rw [h1] at HX1
      rw [h6] at HX6
      have hx1 := HX1.out
      have hx6 := HX6.out
      have HPN := Aside0.mk (hpn _ rfl)
      have HPA := Aside0.mk (pos_any (every := a0_0) (fl := l0_1) (st := l0_2) (l := l1) 3 i l1.length hlt)
      obtain ⟨n, hn⟩ : ∃ n, (l1.getD i z45).f2 = n := ⟨_, rfl⟩
      rw [hn] at f1 f2 f3 HX2
      have hAP := any_filter (lotsP l1 l1.length) (fun m => lotState a0_0 l0_1 l0_2 l1 m == 2) n f1
      have hAQ := any_filter (lotsP l1 l1.length) (fun m => lotState a0_0 l0_1 l0_2 l1 m == 3) n f1
      have hAO := any_filter (lotsP l1 l1.length) (fun m => !(lotState a0_0 l0_1 l0_2 l1 m == 2) && !(lotState a0_0 l0_1 l0_2 l1 m == 3)) n f1
      rw [HL.out.1] at hAP
      rw [HL.out.2.1] at hAQ
      rw [HL.out.2.2.1] at hAO
      rw [HL.out.2.2.2] at HPA
      have hsv := state_val a0_0 l0_1 l0_2 l1 n
      generalize vdS a0_0 l0_1 l0_2 l1 i = v at hju HPN HPA f2 f3 hv3
      generalize lotState a0_0 l0_1 l0_2 l1 n = t at hAP hAQ hAO f2 f3 hsv
      obtain ⟨bP, hbP⟩ : ∃ b, (t == 2) = b := ⟨_, rfl⟩
      obtain ⟨bQ, hbQ⟩ : ∃ b, (t == 3) = b := ⟨_, rfl⟩
      rw [hbP] at hAP hAO
      rw [hbQ] at hAQ hAO
      have hone : (bP = true ∧ bQ = false ∧ v = 2) ∨ (bP = false ∧ bQ = true) ∨ (bP = false ∧ bQ = false ∧ v ≠ 3) := by
       rcases hsv with rfl | rfl | rfl
       ·exact .inr (.inl ⟨hbP.symm, hbQ.symm⟩)
       ·exact .inr (.inr ⟨hbP.symm, hbQ.symm, fun h => absurd (f3 h) zq50⟩)
       ·exact .inl ⟨hbP.symm, hbQ.symm, f2 rfl⟩
      clear hbP hbQ f2 f3 hsv
      obtain ⟨bO, hbO⟩ : ∃ b, (!bP && !bQ) = b := ⟨_, rfl⟩
      rw [hbO] at hAO
      have HONE := Aside0.mk hone
      have HBO := Aside0.mk hbO
      have HV3 := Aside0.mk hv3
      clear hone hbO hv3
      have HAP := Aside0.mk hAP
      have HAQ := Aside0.mk hAQ
      have HAO := Aside0.mk hAO
      clear hAP hAQ hAO f1 hn hpn hkk h1 h6 hk hjudge
      have HCr := Aside0.mk (blk_below HC4.out HB.out)
      have hc00 : wr.cell? ⟨w.heap.size, 0, none⟩ = some (.int .i64 a0_0) := (blk_cell HCr.out 0).trans rfl
      have hc01 : wr.cell? ⟨w.heap.size, 1, none⟩ = some (.slice A0_1 l0_1.length c0_1) := (blk_cell HCr.out 1).trans rfl
      have hc02 : wr.cell? ⟨w.heap.size, 2, none⟩ = some (.slice A0_2 l0_2.length c0_2) := (blk_cell HCr.out 2).trans rfl
      go_wp2_with (go_at_call 21; (with_reducible refine hju.mono ?_); rintro e w5 ⟨rfl, hb⟩; have HB5 := Aside0.mk (below_step HB.out hb); have HXW := Aside0.mk ((hb.cell (World.block_lt_of_cell? wr _ HX2.out)).trans HX2.out); have HBW := Aside0.mk (below_step HBr.out hb); clear hb hx1 hx6)
      clear hju HX1 HX6 hc00 hc01 hc02 HCr
      obtain ⟨wo, hwo⟩ : ∃ wo, wo = wr := ⟨_, rfl⟩
      subst hwo
      go_loopg [16, 17] 3 (fun gg s16 s17 wr => ∃ (k : Int), s17 = .int .i64 k ∧ s16 = .int .i64 (cntB bP bQ bO k) ∧ Aside0 ((0 ≤ k ∧ k ≤ 3) ∧ (3 - k).toNat ≤ gg) ∧ Aside0 (Below w5.heap.size w5 wr))
      case atStart => exact ⟨0, rfl, congrArg (Value.int .i64) (cntB_0 bP bQ bO).symm, ⟨zq18, zq18⟩, ⟨Below.refl _ _⟩⟩
      case round =>
       obtain ⟨k, rfl, rfl, hk3, HBq⟩ := hrel
       have HBQ := Aside0.mk (below_step HBW.out HBq.out)
       have HXq := Aside0.mk ((HBq.out.cell (World.block_lt_of_cell? w5 _ HXW.out)).trans HXW.out)
       have HB35 := Aside0.mk (below_step HB5.out HBq.out)
       have hxs : wr.cell? ⟨(ad.add (i * 7)).block, (ad.add (i * 7)).off + 2, none⟩ = some (.int .i64 n) := HXq.out
       have hxa : ∀ o, (wr.alloc o).cell? ⟨(ad.add (i * 7)).block, (ad.add (i * 7)).off + 2, none⟩ = some (.int .i64 n) := fun o => (((Below.refl wr.heap.size wr).alloc (Nat.le_refl _) o).cell (World.block_lt_of_cell? wr _ hxs)).trans hxs
       have hxb : ∀ o, (wr.drew.alloc o).cell? ⟨(ad.add (i * 7)).block, (ad.add (i * 7)).off + 2, none⟩ = some (.int .i64 n) := fun o => (((Below.refl wr.drew.heap.size wr.drew).alloc (Nat.le_refl _) o).cell (World.block_lt_of_cell? wr.drew _ hxs)).trans hxs
       by_cases hk0 : k = 0
       ·subst hk0
        have hcb := b2i_b bP
        have hcq := b2i_b bQ
        rw [cntB_0]
        have hcall := fun (W : World) (hr : Kd.C (Kd.int .i64) W AP LP.length LP) => has_plain AP cP LP n bP W hr MP.out (by have := HN.out; omega) HAP.out
        clear hcb hcq
        cases hbP : bP
        all_goals
         rw [hbP] at hcall
         go_wp2
         go_region_with (go_at_call 24; (with_reducible refine (hcall _ ?hw).mono ?_); (case hw => exact zq28); rintro e w6 ⟨rfl, nd, rfl⟩)
         all_goals
          go_wp2
          go_roundg 2
          case measure => have := hk3.out; omega
          case rel => exact ⟨1, rfl, congrArg (Value.int .i64) (by rw [cntB_1, hbP]; rfl), ⟨zq18, zq18⟩, ⟨zq32⟩⟩
       by_cases hk1 : k = 1
       ·subst hk1
        have hcb := b2i_b bP
        have hcq := b2i_b bQ
        rw [cntB_1]
        obtain ⟨c, hc⟩ : ∃ c : Int, b2i bP = c := ⟨_, rfl⟩
        rw [hc]
        have hc0 : 0 ≤ c := by omega
        have hc1 : c ≤ 3 := by omega
        have HC := Aside0.mk hc
        clear hc
        have hcall := fun (W : World) (hr : Kd.C (Kd.int .i64) W AQ LQ.length LQ) => has_plain AQ cQ LQ n bQ W hr MQ.out (by have := HN.out; omega) HAQ.out
        clear hcb hcq
        cases hbQ : bQ
        all_goals
         rw [hbQ] at hcall
         go_wp2
         go_region_with (go_at_call 24; (with_reducible refine (hcall _ ?hw).mono ?_); (case hw => exact zq29); rintro e w6 ⟨rfl, nd, rfl⟩)
         all_goals
          go_wp2
          go_roundg 1
          case measure => have := hk3.out; omega
          case rel => exact ⟨2, rfl, congrArg (Value.int .i64) (by rw [cntB_2, HC.out, hbQ]; simp [b2i]), ⟨zq18, zq18⟩, ⟨zq32⟩⟩
       by_cases hk2 : k = 2
       ·subst hk2
        have hcb := b2i_b bP
        have hcq := b2i_b bQ
        rw [cntB_2]
        obtain ⟨c, hc⟩ : ∃ c : Int, b2i bP + b2i bQ = c := ⟨_, rfl⟩
        rw [hc]
        have hc0 : 0 ≤ c := by omega
        have hc1 : c ≤ 3 := by omega
        have HC := Aside0.mk hc
        clear hc
        have hcall := fun (W : World) (hr : Kd.C (Kd.int .i64) W AO LO.length LO) => has_plain AO cO LO n bO W hr MO.out (by have := HN.out; omega) HAO.out
        clear hcb hcq
        cases hbO : bO
        all_goals
         rw [hbO] at hcall
         go_wp2
         go_region_with (go_at_call 24; (with_reducible refine (hcall _ ?hw).mono ?_); (case hw => repeat (first | exact (Kd.C_below GO.out HB35.out) | (with_reducible refine Kd.C_alloc ?_ _) | (with_reducible refine Kd.C_drewN ?_ _) | (with_reducible refine Kd.C_drew ?_))); rintro e w6 ⟨rfl, nd, rfl⟩)
         all_goals
          go_wp2
          go_roundg 0
          case measure => have := hk3.out; omega
          case rel => exact ⟨3, rfl, congrArg (Value.int .i64) (by rw [cntB_3, HC.out, hbO]; simp [b2i]), ⟨zq18, zq18⟩, ⟨zq32⟩⟩
       obtain rfl : k = 3 := by have := hk3.out; omega
       have h3 : cntB bP bQ bO 3 = 1 := by
        rw [cntB_3, ← HBO.out]
        rcases HONE.out with ⟨a, b, _⟩ | ⟨a, b⟩ | ⟨a, b, _⟩ <;> rw [a, b] <;> rfl
       rw [h3]
       clear h3 hk0 hk1 hk2
       have hcP := fun (W : World) (hr : Kd.C (Kd.int .i64) W AP LP.length LP) => has_plain AP cP LP n bP W hr MP.out (by have := HN.out; omega) HAP.out
       have hcQ := fun (W : World) (hr : Kd.C (Kd.int .i64) W AQ LQ.length LQ) => has_plain AQ cQ LQ n bQ W hr MQ.out (by have := HN.out; omega) HAQ.out
       have hcB := fun (W : World) (hr : Kd.C (Kd.int .i64) W AB LB.length LB) => has_plain AB cB LB i (v == 3) W hr MB.out (by have := HN.out; omega) HPA.out
       have hpl := HPL.out
       have hvs := HV3.out
       have hon := HONE.out
       clear HONE HV3 HAP HAQ HAO HPA HBO hxa hxb
       rcases hon with ⟨rfl, rfl, rfl⟩ | ⟨rfl, rfl⟩ | ⟨rfl, rfl, hne⟩
       ·clear hvs
        go_wp2_with (first
         | (go_at_call 24; (with_reducible refine (hcP _ ?hw).mono ?_); (case hw => exact zq28); rintro e w6 ⟨rfl, nd, rfl⟩)
         | (go_at_call 24; (with_reducible refine (hcQ _ ?hw).mono ?_); (case hw => exact zq29); rintro e w7 ⟨rfl, nd2, rfl⟩)
         | (go_at_call 24; (with_reducible refine (hcB _ ?hw).mono ?_); (case hw => exact zq34); rintro e w8 ⟨rfl, nd3, rfl⟩))
        go_roundg (l1.length - (i + 1))
        case measure => have := hi.out; omega
        case rel => exact ⟨i + 1, zq54, congrArg (Value.int .i64) (by rw [HPN.out]; simp), ⟨zq18⟩, ⟨zq40⟩⟩
       ·rcases hvs with rfl | rfl | rfl
        all_goals
         go_wp2_with (first
         | (go_at_call 24; (with_reducible refine (hcP _ ?hw).mono ?_); (case hw => exact zq28); rintro e w6 ⟨rfl, nd, rfl⟩)
         | (go_at_call 24; (with_reducible refine (hcQ _ ?hw).mono ?_); (case hw => exact zq29); rintro e w7 ⟨rfl, nd2, rfl⟩)
         | (go_at_call 24; (with_reducible refine (hcB _ ?hw).mono ?_); (case hw => exact zq34); rintro e w8 ⟨rfl, nd3, rfl⟩))
         go_roundg (l1.length - (i + 1))
         case measure => have := hi.out; omega
         case rel => exact ⟨i + 1, zq54, congrArg (Value.int .i64) (by rw [HPN.out]; simp), ⟨zq18⟩, ⟨zq40⟩⟩
       ·rcases hvs with rfl | rfl | rfl
        ·clear hne
         go_wp2_with (first
         | (go_at_call 24; (with_reducible refine (hcP _ ?hw).mono ?_); (case hw => exact zq28); rintro e w6 ⟨rfl, nd, rfl⟩)
         | (go_at_call 24; (with_reducible refine (hcQ _ ?hw).mono ?_); (case hw => exact zq29); rintro e w7 ⟨rfl, nd2, rfl⟩)
         | (go_at_call 24; (with_reducible refine (hcB _ ?hw).mono ?_); (case hw => exact zq34); rintro e w8 ⟨rfl, nd3, rfl⟩))
         go_roundg (l1.length - (i + 1))
         case measure => have := hi.out; omega
         case rel => exact ⟨i + 1, zq54, congrArg (Value.int .i64) (by rw [HPN.out]; simp), ⟨zq18⟩, ⟨zq40⟩⟩
        ·clear hne
         go_wp2_with (first
         | (go_at_call 24; (with_reducible refine (hcP _ ?hw).mono ?_); (case hw => exact zq28); rintro e w6 ⟨rfl, nd, rfl⟩)
         | (go_at_call 24; (with_reducible refine (hcQ _ ?hw).mono ?_); (case hw => exact zq29); rintro e w7 ⟨rfl, nd2, rfl⟩)
         | (go_at_call 24; (with_reducible refine (hcB _ ?hw).mono ?_); (case hw => exact zq34); rintro e w8 ⟨rfl, nd3, rfl⟩))
         go_roundg (l1.length - (i + 1))
         case measure => have := hi.out; omega
         case rel => exact ⟨i + 1, zq54, congrArg (Value.int .i64) (by rw [HPN.out]; simp), ⟨zq18⟩, ⟨zq40⟩⟩
        ·exact absurd rfl hne
     ·have hv1 := vdS_not (every := a0_0) (fl := l0_1) (st := l0_2) hk
      have HPN := Aside0.mk (show (posP a0_0 l0_1 l0_2 l1 3 (i + 1)).length = (posP a0_0 l0_1 l0_2 l1 3 i).length by rw [hpn _ rfl, hv1, if_neg zq50])
      have hpl := HPL.out
      by_cases h1 : (l1.getD i z45).f1 = 1
      ·have h6 : (l1.getD i z45).f6 = true := by
        cases h : (l1.getD i z45).f6
        ·exact absurd (by unfold keptB; rw [h1, h]; rfl) hk
        ·rfl
       rw [h1] at HX1
       rw [h6] at HX6
       have hx1 := HX1.out
       have hx6 := HX6.out
       clear h1 h6 hk hv1 hpn hjudge
       go_wp2
       go_roundg (l1.length - (i + 1))
       case measure => have := hi.out; omega
       case rel => exact ⟨i + 1, zq54, congrArg (Value.int .i64) (by rw [HPN.out]), ⟨zq18⟩, ⟨zq2⟩⟩
      ·obtain ⟨x, hx⟩ : ∃ x, (l1.getD i z45).f1 = x := ⟨_, rfl⟩
       rw [hx] at HX1 h1
       have hb1 : (x != 1) = true := by simpa using h1
       have hx1 := HX1.out
       clear h1 hx hk hv1 hpn hjudge
       go_wp2
       go_roundg (l1.length - (i + 1))
       case measure => have := hi.out; omega
       case rel => exact ⟨i + 1, zq54, congrArg (Value.int .i64) (by rw [HPN.out]), ⟨zq18⟩, ⟨zq2⟩⟩
    ·have hlen : i = l1.length := by have := hi.out; omega
     have hb0 : decide (i < l1.length) = false := decide_eq_false hlt
     have hpl : (posP a0_0 l0_1 l0_2 l1 3 i).length = LB.length := by rw [hlen, HL.out.2.2.2]
     rw [hpl]
     have hpb : LB.length ≤ 512 := HN.out.2.2.2
     clear hpl hlen hjudge hlt
     obtain ⟨wo, hwo⟩ : ∃ wo, wo = wr := ⟨_, rfl⟩
     subst hwo
     have HBo := Aside0.mk (below_step HB4.out HB.out)
     have HB3o := Aside0.mk HB.out
     go_wp2
     go_loopg [18, 19, 20] 3 (fun gg s18 s19 s20 wr => ∃ (k : Int), s18 = .int .i64 k ∧ Aside0 ((0 ≤ k ∧ k ≤ 3) ∧ (3 - k).toNat ≤ gg) ∧ Aside0 (Below wo.heap.size wo wr))
     case atStart => exact ⟨0, rfl, ⟨zq18, zq18⟩, ⟨Below.refl _ _⟩⟩
     case round =>
      obtain ⟨k, rfl, hk3, HBq⟩ := hrel
      by_cases hk0 : k = 0
      ·subst hk0
       obtain ⟨wp, hwp⟩ : ∃ wp, wp = wr := ⟨_, rfl⟩
       subst hwp
       go_wp2
       go_loopg [20] LP.length (fun gg s20 wr => ∃ (z : Int), s20 = .int .i64 z ∧ Aside0 ((LP.length + 1 - z).toNat ≤ gg) ∧ Aside0 (1 ≤ z ∧ z ≤ LP.length + 1) ∧ Aside0 (Below wo.heap.size wo wr))
       case atStart => exact ⟨1, rfl, ⟨zq18⟩, ⟨zq18⟩, ⟨zq32⟩⟩
       case round =>
        obtain ⟨z, rfl, hj, hj2, HBj⟩ := hrel
        have hm0 : 1 ≤ z := hj2.out.1
        have hm1 : z ≤ 513 := by have := hj2.out; have := HN.out; omega
        by_cases hlt4 : z < (LP.length : Int)
        ·have hC := Kd.C_below GP.out (below_step HB3o.out HBj.out)
         have hbb : decide (z < (LP.length : Int)) = true := decide_eq_true zq18
         obtain ⟨y, hy⟩ : ∃ y : Int, z - 1 = y := ⟨_, rfl⟩
         have hwr : wrap64 (z - 1) = y := by unfold wrap64; omega
         have hwi : IntKind.i64.wrap (z - 1) = y := (i64_w _).trans hwr
         have hy0 : 0 ≤ y := by omega
         have hy1 : y < (LP.length : Int) := by omega
         obtain ⟨ad0, cs0, e0, _, hK0, hc0⟩ := Kd.C_get hC (0 : Int) y hy0 hy1
         obtain ⟨ad1, cs1, e1, _, hK1, hc1⟩ := Kd.C_get hC (0 : Int) z zq18 hlt4
         obtain rfl : ad0 = ad1 := by rw [e0] at e1; exact Option.some.inj e1
         obtain rfl : cs0 = [.int .i64 (LP.getD y.toNat 0)] := hK0
         obtain rfl : cs1 = [.int .i64 (LP.getD z.toNat 0)] := hK1
         have hx0 := hc0 0 _ rfl
         have hx1 := hc1 0 _ rfl
         simp only [show (Kd.int .i64).sz = 1 from rfl, Nat.mul_one, Nat.add_zero, Int.toNat_natCast] at hx0 hx1
         have hsrt : LP.getD y.toNat 0 < LP.getD z.toNat 0 := by
          have hs := HS.out.1
          have h1 : y.toNat < LP.length := by omega
          have h2 : z.toNat < LP.length := by omega
          rw [List.getD_eq_getElem?_getD, List.getD_eq_getElem?_getD, List.getElem?_eq_getElem h1, List.getElem?_eq_getElem h2]
          exact List.pairwise_iff_getElem.1 hs _ _ h1 h2 zq18
         generalize LP.getD y.toNat 0 = u at hx0 hsrt
         generalize LP.getD z.toNat 0 = v at hx1 hsrt
         have hge : decide (u ≥ v) = false := decide_eq_false zq18
         have hge2 : decide (v ≤ u) = false := decide_eq_false zq18
         have hq4 : 0 ≤ z := by omega
         have hd0 : decide (y < (LP.length : Int)) = true := decide_eq_true hy1
         have u0 := eq_true hy0
         have u1 := eq_true hq4
         subst e0
         clear hc0 hc1 hC hsrt e1 hy
         go_wp2
         go_quiet (fail)
         go_wp2
         go_roundg (LP.length + 1 - (z + 1)).toNat
         case measure => have := hj.out; omega
         case rel => exact ⟨z + 1, rfl, ⟨zq18⟩, ⟨zq18⟩, ⟨zq33⟩⟩
        ·have hbb : decide (z < (LP.length : Int)) = false := decide_eq_false zq18
         go_wp2
         go_roundg 2
         case measure => have := hk3.out; omega
         case rel => exact ⟨1, rfl, ⟨zq18, zq18⟩, ⟨zq33⟩⟩
      by_cases hk1 : k = 1
      ·subst hk1
       obtain ⟨wp, hwp⟩ : ∃ wp, wp = wr := ⟨_, rfl⟩
       subst hwp
       go_wp2
       go_loopg [20] LQ.length (fun gg s20 wr => ∃ (z : Int), s20 = .int .i64 z ∧ Aside0 ((LQ.length + 1 - z).toNat ≤ gg) ∧ Aside0 (1 ≤ z ∧ z ≤ LQ.length + 1) ∧ Aside0 (Below wo.heap.size wo wr))
       case atStart => exact ⟨1, rfl, ⟨zq18⟩, ⟨zq18⟩, ⟨zq32⟩⟩
       case round =>
        obtain ⟨z, rfl, hj, hj2, HBj⟩ := hrel
        have hm0 : 1 ≤ z := hj2.out.1
        have hm1 : z ≤ 513 := by have := hj2.out; have := HN.out; omega
        by_cases hlt4 : z < (LQ.length : Int)
        ·have hC := Kd.C_below GQ.out (below_step HB3o.out HBj.out)
         have hbb : decide (z < (LQ.length : Int)) = true := decide_eq_true zq18
         obtain ⟨y, hy⟩ : ∃ y : Int, z - 1 = y := ⟨_, rfl⟩
         have hwr : wrap64 (z - 1) = y := by unfold wrap64; omega
         have hwi : IntKind.i64.wrap (z - 1) = y := (i64_w _).trans hwr
         have hy0 : 0 ≤ y := by omega
         have hy1 : y < (LQ.length : Int) := by omega
         obtain ⟨ad0, cs0, e0, _, hK0, hc0⟩ := Kd.C_get hC (0 : Int) y hy0 hy1
         obtain ⟨ad1, cs1, e1, _, hK1, hc1⟩ := Kd.C_get hC (0 : Int) z zq18 hlt4
         obtain rfl : ad0 = ad1 := by rw [e0] at e1; exact Option.some.inj e1
         obtain rfl : cs0 = [.int .i64 (LQ.getD y.toNat 0)] := hK0
         obtain rfl : cs1 = [.int .i64 (LQ.getD z.toNat 0)] := hK1
         have hx0 := hc0 0 _ rfl
         have hx1 := hc1 0 _ rfl
         simp only [show (Kd.int .i64).sz = 1 from rfl, Nat.mul_one, Nat.add_zero, Int.toNat_natCast] at hx0 hx1
         have hsrt : LQ.getD y.toNat 0 < LQ.getD z.toNat 0 := by
          have hs := HS.out.2.1
          have h1 : y.toNat < LQ.length := by omega
          have h2 : z.toNat < LQ.length := by omega
          rw [List.getD_eq_getElem?_getD, List.getD_eq_getElem?_getD, List.getElem?_eq_getElem h1, List.getElem?_eq_getElem h2]
          exact List.pairwise_iff_getElem.1 hs _ _ h1 h2 zq18
         generalize LQ.getD y.toNat 0 = u at hx0 hsrt
         generalize LQ.getD z.toNat 0 = v at hx1 hsrt
         have hge : decide (u ≥ v) = false := decide_eq_false zq18
         have hge2 : decide (v ≤ u) = false := decide_eq_false zq18
         have hq4 : 0 ≤ z := by omega
         have hd0 : decide (y < (LQ.length : Int)) = true := decide_eq_true hy1
         have u0 := eq_true hy0
         have u1 := eq_true hq4
         subst e0
         clear hc0 hc1 hC hsrt e1 hy
         go_wp2
         go_quiet (fail)
         go_wp2
         go_roundg (LQ.length + 1 - (z + 1)).toNat
         case measure => have := hj.out; omega
         case rel => exact ⟨z + 1, rfl, ⟨zq18⟩, ⟨zq18⟩, ⟨zq33⟩⟩
        ·have hbb : decide (z < (LQ.length : Int)) = false := decide_eq_false zq18
         go_wp2
         go_roundg 1
         case measure => have := hk3.out; omega
         case rel => exact ⟨2, rfl, ⟨zq18, zq18⟩, ⟨zq33⟩⟩
      by_cases hk2 : k = 2
      ·subst hk2
       obtain ⟨wp, hwp⟩ : ∃ wp, wp = wr := ⟨_, rfl⟩
       subst hwp
       go_wp2
       go_loopg [20] LO.length (fun gg s20 wr => ∃ (z : Int), s20 = .int .i64 z ∧ Aside0 ((LO.length + 1 - z).toNat ≤ gg) ∧ Aside0 (1 ≤ z ∧ z ≤ LO.length + 1) ∧ Aside0 (Below wo.heap.size wo wr))
       case atStart => exact ⟨1, rfl, ⟨zq18⟩, ⟨zq18⟩, ⟨zq32⟩⟩
       case round =>
        obtain ⟨z, rfl, hj, hj2, HBj⟩ := hrel
        have hm0 : 1 ≤ z := hj2.out.1
        have hm1 : z ≤ 513 := by have := hj2.out; have := HN.out; omega
        by_cases hlt4 : z < (LO.length : Int)
        ·have hC := Kd.C_below GO.out (below_step HB3o.out HBj.out)
         have hbb : decide (z < (LO.length : Int)) = true := decide_eq_true zq18
         obtain ⟨y, hy⟩ : ∃ y : Int, z - 1 = y := ⟨_, rfl⟩
         have hwr : wrap64 (z - 1) = y := by unfold wrap64; omega
         have hwi : IntKind.i64.wrap (z - 1) = y := (i64_w _).trans hwr
         have hy0 : 0 ≤ y := by omega
         have hy1 : y < (LO.length : Int) := by omega
         obtain ⟨ad0, cs0, e0, _, hK0, hc0⟩ := Kd.C_get hC (0 : Int) y hy0 hy1
         obtain ⟨ad1, cs1, e1, _, hK1, hc1⟩ := Kd.C_get hC (0 : Int) z zq18 hlt4
         obtain rfl : ad0 = ad1 := by rw [e0] at e1; exact Option.some.inj e1
         obtain rfl : cs0 = [.int .i64 (LO.getD y.toNat 0)] := hK0
         obtain rfl : cs1 = [.int .i64 (LO.getD z.toNat 0)] := hK1
         have hx0 := hc0 0 _ rfl
         have hx1 := hc1 0 _ rfl
         simp only [show (Kd.int .i64).sz = 1 from rfl, Nat.mul_one, Nat.add_zero, Int.toNat_natCast] at hx0 hx1
         have hsrt : LO.getD y.toNat 0 < LO.getD z.toNat 0 := by
          have hs := HS.out.2.2
          have h1 : y.toNat < LO.length := by omega
          have h2 : z.toNat < LO.length := by omega
          rw [List.getD_eq_getElem?_getD, List.getD_eq_getElem?_getD, List.getElem?_eq_getElem h1, List.getElem?_eq_getElem h2]
          exact List.pairwise_iff_getElem.1 hs _ _ h1 h2 zq18
         generalize LO.getD y.toNat 0 = u at hx0 hsrt
         generalize LO.getD z.toNat 0 = v at hx1 hsrt
         have hge : decide (u ≥ v) = false := decide_eq_false zq18
         have hge2 : decide (v ≤ u) = false := decide_eq_false zq18
         have hq4 : 0 ≤ z := by omega
         have hd0 : decide (y < (LO.length : Int)) = true := decide_eq_true hy1
         have u0 := eq_true hy0
         have u1 := eq_true hq4
         subst e0
         clear hc0 hc1 hC hsrt e1 hy
         go_wp2
         go_quiet (fail)
         go_wp2
         go_roundg (LO.length + 1 - (z + 1)).toNat
         case measure => have := hj.out; omega
         case rel => exact ⟨z + 1, rfl, ⟨zq18⟩, ⟨zq18⟩, ⟨zq33⟩⟩
        ·have hbb : decide (z < (LO.length : Int)) = false := decide_eq_false zq18
         go_wp2
         go_roundg 0
         case measure => have := hk3.out; omega
         case rel => exact ⟨3, rfl, ⟨zq18, zq18⟩, ⟨zq33⟩⟩
      obtain rfl : k = 3 := by have := hk3.out; omega
      clear hk0 hk1 hk2
      have HBz := Aside0.mk (below_step HBo.out HBq.out)
      go_wp2_with (go_at_call 11; (with_reducible refine (hlooks _).mono ?_); rintro e w9 ⟨rfl, hb⟩; have HB9 := Aside0.mk (below_step HBz.out hb); clear hb)
      go_ret
      exact ⟨rfl, HB9.out⟩
  ·have eL : lotsF a0_0 l0_1 l0_2 l1 = ([], [], [], logS a0_0 l0_1 l0_2 l1) := by unfold lotsF; rw [if_pos h0]
   have eB : blockedF a0_0 l0_1 l0_2 l1 = ([], logS a0_0 l0_1 l0_2 l1) := by unfold blockedF; rw [if_pos h0]
   rw [eL] at hlots
   rw [eB] at hblk
   simp only at hlots hblk
   clear eL eB
   generalize logS a0_0 l0_1 l0_2 l1 = e at hlots hblk h0
   have hbe : (e != 0) = true := by simpa using h0
   clear hr0_1 hr0_2 hr1 h0 hbig hb hb1 hln
   go_enter Try.func6, Try.ntmps6
   go_wp2_with (first
    | (go_at_call 10; (with_reducible refine hmany.mono ?_); rintro e w1 ⟨rfl, hb⟩; have HB2 := Aside0.mk (below_step HB1.out hb); have HC2 := Aside0.mk (blk_below HC1.out hb); have hc00 : w1.cell? ⟨w.heap.size, 0, none⟩ = some (.int .i64 a0_0) := (blk_cell HC2.out 0).trans rfl; have hc01 : w1.cell? ⟨w.heap.size, 1, none⟩ = some (.slice A0_1 l0_1.length c0_1) := (blk_cell HC2.out 1).trans rfl; have hc02 : w1.cell? ⟨w.heap.size, 2, none⟩ = some (.slice A0_2 l0_2.length c0_2) := (blk_cell HC2.out 2).trans rfl; clear hb)
    | (go_at_call 17; (with_reducible refine (hlots _ HB2.out).mono ?_); rintro e w2 ⟨v0, v1, v2, rfl, q0, q1, q2, hb⟩; obtain ⟨AP, cP, e1, hcP, gP⟩ := Kd.R_reads q0; obtain ⟨AQ, cQ, e2, hcQ, gQ⟩ := Kd.R_reads q1; obtain ⟨AO, cO, e3, hcO, gO⟩ := Kd.R_reads q2; subst e1 e2 e3; have HB3 := Aside0.mk (below_step HB2.out hb); have HC3 := Aside0.mk (blk_below HC2.out hb); clear hb q0 q1 q2 gP gQ gO hcP hcQ hcO; have hd00 : w2.cell? ⟨w.heap.size, 0, none⟩ = some (.int .i64 a0_0) := (blk_cell HC3.out 0).trans rfl; have hd01 : w2.cell? ⟨w.heap.size, 1, none⟩ = some (.slice A0_1 l0_1.length c0_1) := (blk_cell HC3.out 1).trans rfl; have hd02 : w2.cell? ⟨w.heap.size, 2, none⟩ = some (.slice A0_2 l0_2.length c0_2) := (blk_cell HC3.out 2).trans rfl)
    | (go_at_call 12; (with_reducible refine (hblk _ HB3.out).mono ?_); rintro e w3 ⟨v3, rfl, q3, hb⟩; obtain ⟨AB, cB, e1, hcB, gB⟩ := Kd.R_reads q3; subst e1; have HB4 := Aside0.mk (below_step HB3.out hb); clear hb q3 gB hcB)
    | (go_at_call 11; (with_reducible refine (hlooks _).mono ?_); rintro e w9 ⟨rfl, hb⟩; have HB9 := Aside0.mk (below_step HB4.out hb); clear hb))
   go_ret
   exact ⟨rfl, HB9.out⟩
 ·go_enter Try.func6, Try.ntmps6
  go_wp2_with (first
   | (go_at_call 10; (with_reducible refine hmany.mono ?_); rintro e w1 ⟨rfl, hb⟩; have HB2 := Aside0.mk (below_step HB1.out hb); clear hb)
   | (go_at_call 11; (with_reducible refine (hlooks _).mono ?_); rintro e w2 ⟨rfl, hb⟩; have HB3 := Aside0.mk (below_step HB2.out hb); clear hb))
  go_ret
  exact ⟨rfl, HB3.out⟩
end Go.Proofs.Ytbpebehbfpgjbaa.P
end
section
namespace Go.Proofs.Ytbpebehbfpgjbaa.inspectLots
open Go.ChangeShapes Go.WideShapes Go.ChangeAt Go.RowKit Go.Proofs.Ytbpebehbfpgjbaa.P
set_option linter.unusedVariables false
theorem own : ownKnob Try.prog.godebug = none := by kernel_rfl
theorem laidOut : laidOutB Try.prog = true := by kernel_rfl
set_option maxRecDepth 100000 in
theorem lifted (os : Os) (started : os.Started) (H : Type) (enc : TypeId × Value → H) :
  ReturnsInHanded {} Try.checked os 6 .any (Rows.inspectLotsSpec.pre6 enc Try.prog Try.f6 Rows.inspectLotsRow.domain false) (Rows.inspectLotsSpec.post enc Try.prog Try.f6 false true false false) := by
 refine returnsInHanded_of_change_sized (C := Try.checked) own started zq26 Try.func6
  (ChangeSpec.witness6 (enc := enc) (C := Try.checked) false ⟨#[], #[.agg #[.int .i64 0, .slice none 0 0, .slice none 0 0], .slice none 0 0], []⟩ 8 zq26 zq26 zq26 zq26) ?_
 intro W base args ds gs before hval0 hW hcnd hsz0 _
 have hval : ∀ (j : Nat) t v, Try.f6.params[j]? = some t → args[j]? = some v → Value.okWide Try.prog W .any base t v := hval0
 have hW' := hW
 obtain ⟨p, q, hA0, hV, rfl, hfz, hnd⟩ := hW
 have hA : DataW.TrodAll enc Try.prog W 0 (fun _ => true) true Try.f6.params.toList args.toList ds p := hA0
 rw [Try.params6] at hA hval
 obtain ⟨v0, vs0, d0, ds0, p0, q0, hargs, rfl, rfl, h0, r0⟩ := trodAll_cons hA
 obtain ⟨v1, vs1, d1, ds1, p1, q1, rfl, rfl, rfl, h1, r1⟩ := trodAll_cons r0
 obtain ⟨rfl, rfl, rfl⟩ := trodAll_nil r1
 obtain rfl : args = #[v0, v1] := by cases args; simp_all
 obtain ⟨rfl, rfl⟩ := trodVars_none hV
 have k0 := h0
 have lt0 : ∀ x ∈ p0, x.block < W.heap.size := by obtain ⟨m, hm⟩ := k0; exact DataW.trod_lt m _ _ _ hm
 obtain ⟨a0, A0_1, c0_1, l0_1, A0_2, c0_2, l0_2, rfl, w0, hc0_1, hC0_1, hc0_2, hC0_2⟩ := open_checker h0
 have k1 := h1
 have lt1 : ∀ x ∈ p1, x.block < W.heap.size := by obtain ⟨m, hm⟩ := k1; exact DataW.trod_lt m _ _ _ hm
 obtain ⟨b1, len1, cap1, e1⟩ := okWide_slice Try.underlying26 (hval 1 26 v1 rfl rfl)
 obtain ⟨A1, c1, l1, rfl, hc1, hC1⟩ := open_runs h1 (fun a e => by rw [e] at e1; cases e1)
 clear hA0 hval0 hsz0
 refine (lots_walk a0 A0_1 c0_1 l0_1 A0_2 c0_2 l0_2 A1 c1 l1 W hC0_1 hc0_1 hC0_2 hc0_2 hC1 hc1).mono fun e W' ⟨he, bel⟩ => ?_
 subst he
 exact ⟨_, rfl, _, _, _, [], _, [], hW', trodAll_mk1 (shut_bool Try.underlying4 _), (trodAll_cons_mk (Below.trod laidOut zq26 (of_decide_eq_true zq26) k0 bel lt0) (trodAll_cons_mk (Below.trod laidOut zq26 (of_decide_eq_true zq26) k1 bel lt1) trodAll_mk0)), rfl, bel.frame _, fun h => by cases h⟩
theorem over : Rows.inspectLotsRow.holds Try.pinned (OpenSpec.ofChange Rows.inspectLotsSpec) :=
 OpenClaim.holds_of_wide 6 Try.f6 rfl rfl rfl rfl rfl rfl rfl ⟨rfl, rfl, rfl, rfl, rfl⟩ rfl rfl rfl rfl rfl zq26 Try.func6 zq26
  (of_decide_eq_true zq26) (by unfold Func.isWrapper; first | (rw [if_pos (by decide +kernel)]; kernel_rfl) | (rw [if_neg (by decide +kernel)]; exact ⟨rfl, rfl⟩))
  (fun os started H enc _ => lifted os started H enc)
theorem proved : Rows.InspectLotsSaid := over
end Go.Proofs.Ytbpebehbfpgjbaa.inspectLots
namespace Go.Proofs.Ytbpebehbfpgjbaa
theorem inspectLots_holds : Rows.InspectLotsSaid := inspectLots.proved
end Go.Proofs.Ytbpebehbfpgjbaa
end
