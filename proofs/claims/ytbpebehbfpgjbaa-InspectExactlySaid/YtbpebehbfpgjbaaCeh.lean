/- Texts of the proof, joined: what they prove stands at each theorem. -/
import Derived.Test.YtbpebehbfpgjbaaCeb
import Derived.Test.YtbpebehbfpgjbaaCef
import Derived.Test.YtbpebehbfpgjbaaCeg
section
namespace Go.Proofs.Ytbpebehbfpgjbaa.P
open Go.RowKit Go.Proofs.YtbpebehbfpgjbaaW.PrintWords Go.Proofs.YtbpebehbfpgjbaaW.PrintLast Go.Proofs.YtbpebehbfpgjbaaW.PrintMore
attribute [local go_sem] max2_int min2_int max_two min_two max_three min_three max_four min_four
set_option linter.unusedVariables false
set_option linter.unusedSimpArgs false
def culletlaw07_eye.f  : Option (Int × (List (S58)) × (List (S56))) := some (100, (([(⟨(⟨#[99, 114, 97, 99, 107]⟩ : ByteArray), 1⟩ : S58)] : List (S58))), (([(⟨(⟨#[101, 121, 101]⟩ : ByteArray), (([(⟨0, 1, 50⟩ : S68)] : List (S68)))⟩ : S56)] : List (S56))))
set_option maxHeartbeats 8000000 in
set_option maxRecDepth 100000 in
theorem culletlaw07_eye.calls  (r1 : Int) (r2 : List (S58)) (r3 : List (S56)) (w : World) (h : culletlaw07_eye.f  = some (r1, r2, r3)) :
  Calls Try.prog 30 #[] w fun e w' => ∃ v1_ v2_ : Value, e = .returned (.agg #[.int .i64 r1, v1_, v2_]) ∧ Kd.R k58 58 w' w.heap.size (fun k_ => (w.heap.size ≤ k_)) v1_ r2 ∧ Kd.N k56 56 w' w.heap.size (fun k_ => (w.heap.size ≤ k_) ∧ some k_ ≠ (v1_ : Value).ownBlock) v2_ r3 ∧ Below w.heap.size w w' := by
 have hu25 := Try.underlying25
 have hu58 := Try.underlying58
 have hu68 := Try.underlying68
 have hu56 := Try.underlying56
 have HB := Aside0.mk (Below.refl w.heap.size w)
 have H : (some (100, (([(⟨(⟨#[99, 114, 97, 99, 107]⟩ : ByteArray), 1⟩ : S58)] : List (S58))), (([(⟨(⟨#[101, 121, 101]⟩ : ByteArray), (([(⟨0, 1, 50⟩ : S68)] : List (S68)))⟩ : S56)] : List (S56))))) = some (r1, r2, r3) := h
 clear h
 obtain ⟨y102, hy102⟩ : ∃ y_ : List (S58), y_ = (([(⟨(⟨#[99, 114, 97, 99, 107]⟩ : ByteArray), 1⟩ : S58)] : List (S58))) := ⟨_, rfl⟩
 replace H : (some (100, y102, (([(⟨(⟨#[101, 121, 101]⟩ : ByteArray), (([(⟨0, 1, 50⟩ : S68)] : List (S68)))⟩ : S56)] : List (S56))))) = some (r1, r2, r3) := by first | (rw [hy102]; with_reducible exact H) | (have H2_ := (Option.bind_some _ _).symm.trans H; rw [hy102]; with_reducible exact H2_) | (have H2_ := (Option.bind_some _ _).symm.trans H; with_reducible exact H2_) | with_reducible exact H | (rw [hy102]; exact H) | exact H
 have Ny102 := Aside0.mk hy102
 clear hy102
 obtain ⟨y105, hy105⟩ : ∃ y_ : List (S68), y_ = (([(⟨0, 1, 50⟩ : S68)] : List (S68))) := ⟨_, rfl⟩
 replace H : (some (100, y102, (([(⟨(⟨#[101, 121, 101]⟩ : ByteArray), y105⟩ : S56)] : List (S56))))) = some (r1, r2, r3) := by first | (rw [hy105]; with_reducible exact H) | (have H2_ := (Option.bind_some _ _).symm.trans H; rw [hy105]; with_reducible exact H2_) | (have H2_ := (Option.bind_some _ _).symm.trans H; with_reducible exact H2_) | with_reducible exact H | (rw [hy105]; exact H) | exact H
 have Ny105 := Aside0.mk hy105
 clear hy105
 obtain ⟨y108, hy108⟩ : ∃ y_ : List (S56), y_ = (([(⟨(⟨#[101, 121, 101]⟩ : ByteArray), y105⟩ : S56)] : List (S56))) := ⟨_, rfl⟩
 replace H : (some (100, y102, y108)) = some (r1, r2, r3) := by first | (rw [hy108]; with_reducible exact H) | (have H2_ := (Option.bind_some _ _).symm.trans H; rw [hy108]; with_reducible exact H2_) | (have H2_ := (Option.bind_some _ _).symm.trans H; with_reducible exact H2_) | with_reducible exact H | (rw [hy108]; exact H) | exact H
 have Ny108 := Aside0.mk hy108
 clear hy108
 simp only [Option.some.injEq, Prod.mk.injEq] at H
 obtain ⟨rfl, rfl, rfl⟩ := H
 go_enter Try.func30, Try.ntmps30
 go_wp2_with (first | ((with_reducible refine gate_dst (N := 0) rfl ?_); refine box_event ?hg (N := 0) ?hd (cs := #[.int .i64 0, .slice none 0 0, .slice none 0 0]) (t := 25) ?hr ?_; (case hd => rfl); (case hg => rfl); (case hr => exact zq14); intro gb101 hg w1 hbox hb; have n_ := as4 (below_step zq3 hb) (hbox) ((zq26 : w.heap.size ≤ gb101)) ((zq26 : w.heap.size ≤ gb101)); clear HB hb hbox hg; obtain ⟨HB, BK101, GW101, GE101⟩ := n_) | ((with_reducible refine gate_dst (N := 2) rfl ?_); refine Kd.R_lit k58 _ 58 ?hg (N := 2) ?hd (xs := ([(⟨(⟨#[99, 114, 97, 99, 107]⟩ : ByteArray), 1⟩ : S58)] : List (S58))) (inner := [.string (⟨#[99, 114, 97, 99, 107]⟩ : ByteArray), .int .i64 1]) (ok := fun _ => True) (okp := fun _ => True) ?hr ?hp (fun _ hk => hk) trivial (Below.refl _ _) (Nat.le_refl _) zq53 ?_; (case hd => rfl); (case hg => rfl); (case hr => exact zq14); (case hp => exact (Reps.c2 (show Kd.M k58 _ _ _ (⟨(⟨#[99, 114, 97, 99, 107]⟩ : ByteArray), 1⟩ : S58) [.string (⟨#[99, 114, 97, 99, 107]⟩ : ByteArray), .int .i64 1] from (k58_mkM _ _ _ (⟨(⟨#[99, 114, 97, 99, 107]⟩ : ByteArray), 1⟩ : S58) )) (Reps.none _ _))); intro v103 w2 ho3 hb hg_ hnew_; clear hg_ hnew_; (first | rw [← Ny102.out] at ho3 | (simp only [Int.reduceToNat] at ho3; rw [← Ny102.out] at ho3)); have n_ := as3 (Kd.R_lower (Kd.R_newM (M := fun k_ => (w.heap.size ≤ k_)) ho3 (below_size zq15) (fun k_ h_ => h_)) (below_size zq15)) (blk_below (zq0 BK101.out) hb) (below_step zq15 hb); clear BK101 HB; obtain ⟨HO104, BK101, HB⟩ := n_; clear hb ho3) | ((with_reducible refine gate_dst (N := 4) rfl ?_); refine Kd.R_lit k68 _ 68 ?hg (N := 4) ?hd (xs := ([(⟨0, 1, 50⟩ : S68)] : List (S68))) (inner := [.int .i64 0, .int .i64 1, .int .i64 50]) (ok := fun _ => True) (okp := fun _ => True) ?hr ?hp (fun _ hk => hk) trivial (Below.refl _ _) (Nat.le_refl _) zq53 ?_; (case hd => rfl); (case hg => rfl); (case hr => exact zq14); (case hp => exact (Reps.c3 (show Kd.M k68 _ _ _ (⟨0, 1, 50⟩ : S68) [.int .i64 0, .int .i64 1, .int .i64 50] from (k68_mkM _ _ _ (⟨0, 1, 50⟩ : S68) )) (Reps.none _ _))); intro v106 w4 ho5 hb hg_ hnew_; clear hg_ hnew_; (first | rw [← Ny105.out] at ho5 | (simp only [Int.reduceToNat] at ho5; rw [← Ny105.out] at ho5)); have n_ := as4 (Kd.R_below (zq1 HO104.out) hb) (Kd.R_lower (Kd.R_newM (M := fun k_ => (w.heap.size ≤ k_)) ho5 (below_size zq15) (fun k_ h_ => h_)) (below_size zq15)) (blk_below (zq0 BK101.out) hb) (below_step zq15 hb); clear HO104 BK101 HB; obtain ⟨HO104, HO107, BK101, HB⟩ := n_; clear hb ho5; obtain ⟨Ao6, co6, eo6⟩ := Kd.R_slice HO107.out; subst eo6) | ((with_reducible refine gate_dst (N := 6) rfl ?_); refine Kd.N_lit k56 _ 56 ?hg (N' := 6) ?hd (xs := ([(⟨(⟨#[101, 121, 101]⟩ : ByteArray), y105⟩ : S56)] : List (S56))) (inner := [.string (⟨#[101, 121, 101]⟩ : ByteArray), .slice Ao6 y105.length co6]) (ok := (fun k_ => (w.heap.size ≤ k_) ∧ some k_ ≠ (v103 : Value).ownBlock ∧ k_ ≠ gb101)) (okp := (fun k_ => (w.heap.size ≤ k_) ∧ some k_ ≠ (v103 : Value).ownBlock ∧ k_ ≠ gb101)) ?hr ?hp (fun _ hk => hk) ((show ∀ k_, w4.heap.size ≤ k_ → (fun k_ => (w.heap.size ≤ k_) ∧ some k_ ≠ (v103 : Value).ownBlock ∧ k_ ≠ gb101) k_ from fun k_ hk => ⟨(Nat.le_trans (below_size zq15) hk), Kd.fresh' (Kd.R_lt (zq1 HO104.out)) k_ hk, Kd.freshB (zq0 BK101.out) k_ hk⟩) _ (Nat.le_refl _)) (Below.refl _ _) (Nat.le_refl _) zq53 ?_; (case hd => rfl); (case hg => rfl); (case hr => exact zq14); (case hp => exact (Reps.c2 (show Kd.FK k56 _ _ (⟨(⟨#[101, 121, 101]⟩ : ByteArray), y105⟩ : S56) [.string (⟨#[101, 121, 101]⟩ : ByteArray), .slice Ao6 y105.length co6] from (k56_mkF _ _ (⟨(⟨#[101, 121, 101]⟩ : ByteArray), y105⟩ : S56) (Kd.R_reads' (Kd.R_mono (ok' := (fun k_ => (w.heap.size ≤ k_) ∧ some k_ ≠ (v103 : Value).ownBlock ∧ k_ ≠ gb101)) (Kd.R_types (Kd.R_apart' (HO107.out) (Kd.R_typed HO104.out) zq52) BK101.out zq52) (fun k_ hk => ⟨hk.1.1.1, ⟨hk.1.2, hk.2⟩⟩))).2.1 (Kd.R_F (Kd.R_mono (ok' := (fun k_ => (w.heap.size ≤ k_) ∧ some k_ ≠ (v103 : Value).ownBlock ∧ k_ ≠ gb101)) (Kd.R_types (Kd.R_apart' (HO107.out) (Kd.R_typed HO104.out) zq52) BK101.out zq52) (fun k_ hk => ⟨hk.1.1.1, ⟨hk.1.2, hk.2⟩⟩))))) (Reps.none _ _))); intro v109 w7 ho8 hb hg_ hnew_; clear hg_ hnew_; (first | rw [← Ny108.out] at ho8 | (simp only [Int.reduceToNat] at ho8; rw [← Ny108.out] at ho8)); have n_ := as4 (Kd.R_below (zq1 HO104.out) hb) (Kd.N_lower ho8 (below_size zq15)) (blk_below (zq0 BK101.out) hb) (below_step zq15 hb); clear HO104 BK101 HB HO107; obtain ⟨HO104, HO110, BK101, HB⟩ := n_; clear hb ho8; obtain ⟨Ao9, co9, eo9⟩ := Kd.N_slice HO110.out; subst eo9; obtain ⟨Ao10, co10, eo10⟩ := Kd.R_slice HO104.out; subst eo10; obtain ⟨hcz11_0, hcz11_1, hcz11_2, hfz11_0, hfz11_1, hfz11_2⟩ := bcs3 BK101.out))
 refine bodyPost_ret (results_cell_row rfl _ _ gb101 25 #[.int .i64 100, .slice Ao10 y102.length co10, .slice Ao9 y108.length co9] (0, 0) _ rfl (bch0p BK101.out) Try.underlying25 rfl zq31) rfl ?_
 exact ⟨_, _, zq11, by (with_reducible repeat (first | apply Kd.R_alloc | apply Kd.R_drewN | apply Kd.R_drew)); exact Kd.R_mono (Kd.R_far (p := ⟨gb101, 2, none⟩) (Kd.R_far (p := ⟨gb101, 1, none⟩) (Kd.R_far (p := ⟨gb101, 0, none⟩) (Kd.R_types HO104.out BK101.out zq52) (fun _ hk => hk.2) (.int .i64 100)) (fun _ hk => hk.2) (.slice Ao10 y102.length co10)) (fun _ hk => hk.2) (.slice Ao9 y108.length co9)) (fun _ hk => hk.1.1), by (with_reducible repeat (first | apply Kd.N_alloc | apply Kd.N_drewN | apply Kd.N_drew)); exact Kd.N_mono (Kd.N_far (p := ⟨gb101, 2, none⟩) (Kd.N_far (p := ⟨gb101, 1, none⟩) (Kd.N_far (p := ⟨gb101, 0, none⟩) (Kd.N_mono HO110.out (fun k_ hk => (⟨hk, hk.2.2⟩ : _ ∧ k_ ≠ gb101))) (fun _ hk => hk.2) (.int .i64 100)) (fun _ hk => hk.2) (.slice Ao10 y102.length co10)) (fun _ hk => hk.2) (.slice Ao9 y108.length co9)) (fun _ hk => ⟨hk.1.1, hk.1.2.1⟩), zq15⟩
def culletlaw07_day.f  : Option ((List (S45))) := some (([(⟨10, 2, 0, 0, 0, 0, true⟩ : S45), (⟨20, 1, 7, 0, 0, 0, false⟩ : S45), (⟨60, 2, 0, 0, 0, 0, true⟩ : S45), (⟨70, 1, 8, 0, 0, 0, false⟩ : S45), (⟨90, 2, 0, 0, 0, 0, false⟩ : S45), (⟨95, 1, 9, 0, 0, 0, false⟩ : S45)] : List (S45)))
set_option maxHeartbeats 8000000 in
set_option maxRecDepth 100000 in
theorem culletlaw07_day.calls  (r : List (S45)) (w : World) (h : culletlaw07_day.f  = some r) :
  Calls Try.prog 31 #[] w fun e w' => ∃ v0_ : Value, e = .returned (v0_) ∧ Kd.R k45 45 w' w.heap.size (fun _ => True) v0_ r ∧ Below w.heap.size w w' := by
 have hu45 := Try.underlying45
 have HB := Aside0.mk (Below.refl w.heap.size w)
 have H : (some (([(⟨10, 2, 0, 0, 0, 0, true⟩ : S45), (⟨20, 1, 7, 0, 0, 0, false⟩ : S45), (⟨60, 2, 0, 0, 0, 0, true⟩ : S45), (⟨70, 1, 8, 0, 0, 0, false⟩ : S45), (⟨90, 2, 0, 0, 0, 0, false⟩ : S45), (⟨95, 1, 9, 0, 0, 0, false⟩ : S45)] : List (S45)))) = some r := h
 clear h
 obtain ⟨y111, hy111⟩ : ∃ y_ : List (S45), y_ = (([(⟨10, 2, 0, 0, 0, 0, true⟩ : S45), (⟨20, 1, 7, 0, 0, 0, false⟩ : S45), (⟨60, 2, 0, 0, 0, 0, true⟩ : S45), (⟨70, 1, 8, 0, 0, 0, false⟩ : S45), (⟨90, 2, 0, 0, 0, 0, false⟩ : S45), (⟨95, 1, 9, 0, 0, 0, false⟩ : S45)] : List (S45))) := ⟨_, rfl⟩
 replace H : (some y111) = some r := by first | (rw [hy111]; with_reducible exact H) | (have H2_ := (Option.bind_some _ _).symm.trans H; rw [hy111]; with_reducible exact H2_) | (have H2_ := (Option.bind_some _ _).symm.trans H; with_reducible exact H2_) | with_reducible exact H | (rw [hy111]; exact H) | exact H
 have Ny111 := Aside0.mk hy111
 clear hy111
 obtain rfl := Option.some.inj H
 go_enter Try.func31, Try.ntmps31
 go_wp2_with (first | ((with_reducible refine gate_dst (N := 7) rfl ?_); refine Kd.R_lit k45 _ 45 ?hg (N := 7) ?hd (xs := ([(⟨10, 2, 0, 0, 0, 0, true⟩ : S45), (⟨20, 1, 7, 0, 0, 0, false⟩ : S45), (⟨60, 2, 0, 0, 0, 0, true⟩ : S45), (⟨70, 1, 8, 0, 0, 0, false⟩ : S45), (⟨90, 2, 0, 0, 0, 0, false⟩ : S45), (⟨95, 1, 9, 0, 0, 0, false⟩ : S45)] : List (S45))) (inner := [.int .i64 10, .int .u8 2, .int .i64 0, .int .i64 0, .int .i64 0, .int .i64 0, .bool true, .int .i64 20, .int .u8 1, .int .i64 7, .int .i64 0, .int .i64 0, .int .i64 0, .bool false, .int .i64 60, .int .u8 2, .int .i64 0, .int .i64 0, .int .i64 0, .int .i64 0, .bool true, .int .i64 70, .int .u8 1, .int .i64 8, .int .i64 0, .int .i64 0, .int .i64 0, .bool false, .int .i64 90, .int .u8 2, .int .i64 0, .int .i64 0, .int .i64 0, .int .i64 0, .bool false, .int .i64 95, .int .u8 1, .int .i64 9, .int .i64 0, .int .i64 0, .int .i64 0, .bool false]) (ok := fun _ => True) (okp := fun _ => True) ?hr ?hp (fun _ hk => hk) trivial (Below.refl _ _) (Nat.le_refl _) zq53 ?_; (case hd => rfl); (case hg => rfl); (case hr => exact zq14); (case hp => exact (Reps.c7 (show Kd.M k45 _ _ _ (⟨10, 2, 0, 0, 0, 0, true⟩ : S45) [.int .i64 10, .int .u8 2, .int .i64 0, .int .i64 0, .int .i64 0, .int .i64 0, .bool true] from (k45_mkM _ _ _ (⟨10, 2, 0, 0, 0, 0, true⟩ : S45) )) (Reps.c7 (show Kd.M k45 _ _ _ (⟨20, 1, 7, 0, 0, 0, false⟩ : S45) [.int .i64 20, .int .u8 1, .int .i64 7, .int .i64 0, .int .i64 0, .int .i64 0, .bool false] from (k45_mkM _ _ _ (⟨20, 1, 7, 0, 0, 0, false⟩ : S45) )) (Reps.c7 (show Kd.M k45 _ _ _ (⟨60, 2, 0, 0, 0, 0, true⟩ : S45) [.int .i64 60, .int .u8 2, .int .i64 0, .int .i64 0, .int .i64 0, .int .i64 0, .bool true] from (k45_mkM _ _ _ (⟨60, 2, 0, 0, 0, 0, true⟩ : S45) )) (Reps.c7 (show Kd.M k45 _ _ _ (⟨70, 1, 8, 0, 0, 0, false⟩ : S45) [.int .i64 70, .int .u8 1, .int .i64 8, .int .i64 0, .int .i64 0, .int .i64 0, .bool false] from (k45_mkM _ _ _ (⟨70, 1, 8, 0, 0, 0, false⟩ : S45) )) (Reps.c7 (show Kd.M k45 _ _ _ (⟨90, 2, 0, 0, 0, 0, false⟩ : S45) [.int .i64 90, .int .u8 2, .int .i64 0, .int .i64 0, .int .i64 0, .int .i64 0, .bool false] from (k45_mkM _ _ _ (⟨90, 2, 0, 0, 0, 0, false⟩ : S45) )) (Reps.c7 (show Kd.M k45 _ _ _ (⟨95, 1, 9, 0, 0, 0, false⟩ : S45) [.int .i64 95, .int .u8 1, .int .i64 9, .int .i64 0, .int .i64 0, .int .i64 0, .bool false] from (k45_mkM _ _ _ (⟨95, 1, 9, 0, 0, 0, false⟩ : S45) )) (Reps.none _ _)))))))); intro v112 w1 ho2 hb hg_ hnew_; clear hg_ hnew_; (first | rw [← Ny111.out] at ho2 | (simp only [Int.reduceToNat] at ho2; rw [← Ny111.out] at ho2)); have n_ := as2 (Kd.R_lower ho2 (below_size zq3)) (below_step zq3 hb); clear HB; obtain ⟨HO113, HB⟩ := n_; clear hb ho2))
 go_ret
 exact ⟨_, zq11, (zq1 HO113.out), zq3⟩
end Go.Proofs.Ytbpebehbfpgjbaa.P
end
section
namespace Go.Proofs.Ytbpebehbfpgjbaa.P
open Go.RowKit Go.Proofs.YtbpebehbfpgjbaaW.PrintWords Go.Proofs.YtbpebehbfpgjbaaW.PrintLast Go.Proofs.YtbpebehbfpgjbaaW.PrintMore
set_option linter.unusedVariables false
set_option linter.unusedSimpArgs false
def eyeF : List S58 := [⟨⟨#[99, 114, 97, 99, 107]⟩, 1⟩]
def eyeS : List S56 := [⟨⟨#[101, 121, 101]⟩, [⟨0, 1, 50⟩]⟩]
def dayL : List S45 := [⟨10, 2, 0, 0, 0, 0, true⟩, ⟨20, 1, 7, 0, 0, 0, false⟩, ⟨60, 2, 0, 0, 0, 0, true⟩, ⟨70, 1, 8, 0, 0, 0, false⟩, ⟨90, 2, 0, 0, 0, 0, false⟩, ⟨95, 1, 9, 0, 0, 0, false⟩]
theorem eye_plain (w : World) : Calls Try.prog 30 #[] w fun e w' => ∃ A1 c1 A2 c2, e = .returned (.agg #[.int .i64 100, .slice A1 1 c1, .slice A2 1 c2]) ∧ 1 ≤ c1 ∧ 1 ≤ c2 ∧ Kd.C k58 w' A1 1 eyeF ∧ Kd.C k56 w' A2 1 eyeS ∧ Below w.heap.size w w' :=
 (culletlaw07_eye.calls 100 eyeF eyeS w rfl).mono (by
  rintro e w' ⟨v1, v2, rfl, h1, h2, hb⟩
  obtain ⟨A1, c1, rfl, k1, r1⟩ := Kd.R_reads h1
  obtain ⟨A2, c2, rfl, k2, r2⟩ := Kd.N_reads h2
  exact ⟨A1, c1, A2, c2, rfl, k1, k2, r1, r2, hb⟩)
theorem day_plain (w : World) : Calls Try.prog 31 #[] w fun e w' => ∃ A3 c3, e = .returned (.slice A3 6 c3) ∧ 6 ≤ c3 ∧ Kd.C k45 w' A3 6 dayL ∧ Below w.heap.size w w' :=
 (culletlaw07_day.calls dayL w rfl).mono (by
  rintro e w' ⟨v1, rfl, h1, hb⟩
  obtain ⟨A1, c1, rfl, k1, r1⟩ := Kd.R_reads h1
  exact ⟨A1, c1, rfl, k1, r1, hb⟩)
section
variable (A1 : Option Addr) (c1 : Nat) (A2 : Option Addr) (c2 : Nat) (A3 : Option Addr) (c3 : Nat) (w : World) (k1 : 1 ≤ c1) (k2 : 1 ≤ c2) (k3 : 6 ≤ c3) (h1 : Kd.C k58 w A1 1 eyeF) (h2 : Kd.C k56 w A2 1 eyeS) (h3 : Kd.C k45 w A3 6 dayL)
include k1 k2 k3 h1 h2 h3
theorem look1 : Calls Try.prog 21 #[.agg #[.int .i64 100, .slice A1 1 c1, .slice A2 1 c2], .slice A3 6 c3, .int .i64 1] w fun e w' => e = .returned (.tuple #[.int .u8 2, .int .i64 (-1), .int .i64 0]) ∧ Below w.heap.size w w' :=
 inspect_Judge.calls 100 A1 c1 eyeF A2 c2 eyeS A3 c3 dayL 1 2 (-1) 0 w h1 k1 h2 k2 h3 k3 zq31
theorem look3 : Calls Try.prog 21 #[.agg #[.int .i64 100, .slice A1 1 c1, .slice A2 1 c2], .slice A3 6 c3, .int .i64 3] w fun e w' => e = .returned (.tuple #[.int .u8 3, .int .i64 0, .int .i64 0]) ∧ Below w.heap.size w w' :=
 inspect_Judge.calls 100 A1 c1 eyeF A2 c2 eyeS A3 c3 dayL 3 3 0 0 w h1 k1 h2 k2 h3 k3 zq31
theorem look5 : Calls Try.prog 21 #[.agg #[.int .i64 100, .slice A1 1 c1, .slice A2 1 c2], .slice A3 6 c3, .int .i64 5] w fun e w' => e = .returned (.tuple #[.int .u8 3, .int .i64 0, .int .i64 0]) ∧ Below w.heap.size w w' :=
 inspect_Judge.calls 100 A1 c1 eyeF A2 c2 eyeS A3 c3 dayL 5 3 0 0 w h1 k1 h2 k2 h3 k3 zq31
theorem lookB : Calls Try.prog 12 #[.agg #[.int .i64 100, .slice A1 1 c1, .slice A2 1 c2], .slice A3 6 c3] w fun e w' => ∃ A c, e = .returned (.tuple #[.slice A 2 c, .int .i64 0]) ∧ Kd.C (Kd.int .i64) w' A 2 [3, 5] ∧ Below w.heap.size w w' :=
 (inspect_Blocked.calls 100 A1 c1 eyeF A2 c2 eyeS A3 c3 dayL [3, 5] 0 w h1 k1 h2 k2 h3 k3 zq31).mono (by
  rintro e w' ⟨v, rfl, h, hb⟩
  obtain ⟨A, c, rfl, _, r⟩ := Kd.R_reads h
  exact ⟨A, c, rfl, r, hb⟩)
theorem lookM : Calls Try.prog 15 #[.agg #[.int .i64 100, .slice A1 1 c1, .slice A2 1 c2], .slice A3 6 c3, .int .i64 0] w fun e w' => e = .returned (.tuple #[.agg #[.int .i64 1, .int .i64 50], .int .i64 1, .int .i64 0]) ∧ Below w.heap.size w w' :=
 inspect_Missed.calls 100 A1 c1 eyeF A2 c2 eyeS A3 c3 dayL 0 1 50 1 0 w h1 k1 h2 k2 h3 k3 zq31
theorem lookL : Calls Try.prog 17 #[.agg #[.int .i64 100, .slice A1 1 c1, .slice A2 1 c2], .slice A3 6 c3] w fun e w' => ∃ A c A' c' A'' c'', e = .returned (.tuple #[.slice A 1 c, .slice A' 2 c', .slice A'' 0 c'', .int .i64 0]) ∧ Kd.C (Kd.int .i64) w' A 1 [7] ∧ Kd.C (Kd.int .i64) w' A' 2 [8, 9] ∧ Below w.heap.size w w' :=
 (inspect_Lots.calls 100 A1 c1 eyeF A2 c2 eyeS A3 c3 dayL [7] [8, 9] [] 0 w h1 k1 h2 k2 h3 k3 zq31).mono (by
  rintro e w' ⟨v, v', v'', rfl, h, h', h'', hb⟩
  obtain ⟨A, c, rfl, _, r⟩ := Kd.R_reads h
  obtain ⟨A', c', rfl, _, r'⟩ := Kd.R_reads h'
  obtain ⟨A'', c'', rfl, _, r''⟩ := Kd.R_reads h''
  exact ⟨A, c, A', c', A'', c'', rfl, r, r', hb⟩)
end
theorem C_at0 {w : World} {A : Option Addr} {n : Nat} {xs : List Int} (h : Kd.C (Kd.int .i64) w A n xs) (i : Nat) (hi : i < n) : ∃ ad, A = some ad ∧ w.cell? (ad.add i) = some (.int .i64 (xs.getD i 0)) := by
 obtain ⟨ad, cs, rfl, _, hK, hc0⟩ := Kd.C_get h (0 : Int) (i : Int) zq21 zq21
 obtain rfl : cs = [.int .i64 (xs.getD (i : Int).toNat 0)] := hK
 have hx := hc0 0 _ rfl
 simp only [show (Kd.int .i64).sz = 1 from rfl, Nat.mul_one, Nat.add_zero, Int.toNat_natCast] at hx
 exact ⟨ad, rfl, hx⟩
theorem C_atz {w : World} {A : Option Addr} {n : Nat} {xs : List Int} (h : Kd.C (Kd.int .i64) w A n xs) (hi : 0 < n) : ∃ ad, A = some ad ∧ w.cell? ad = some (.int .i64 (xs.getD 0 0)) := by
 obtain ⟨ad, e, hx⟩ := C_at0 h 0 hi
 exact ⟨ad, e, hx⟩
theorem C_at1 {w : World} {A : Option Addr} {n : Nat} {xs : List Int} (h : Kd.C (Kd.int .i64) w A n xs) (hi : 1 < n) : ∃ ad, A = some ad ∧ w.cell? ⟨ad.block, ad.off + 1, none⟩ = some (.int .i64 (xs.getD 1 0)) := by
 obtain ⟨ad, e, hx⟩ := C_at0 h 1 hi
 refine ⟨ad, e, ?_⟩
 have hf := add_field ad 0 1 zq21
 rw [show (0 + 1 : Nat) = 1 from rfl] at hf
 rw [hf] at hx
 exact hx
def culletlaw07_looks.f : Option Bool := some true
set_option maxHeartbeats 16000000 in
set_option maxRecDepth 100000 in
theorem culletlaw07_looks.calls (r : Bool) (w : World) (h : culletlaw07_looks.f = some r) : Calls Try.prog 11 #[] w fun e w' => e = .returned (.bool r) ∧ Below w.heap.size w w' := by
 obtain rfl : true = r := Option.some.inj h
 clear h
 have HB := Aside0.mk (Below.refl w.heap.size w)
 go_enter Try.func11, Try.ntmps11
 go_wp2_with (first
  | (go_at_call 30; (with_reducible refine (eye_plain _).mono ?_); rintro e w1 ⟨A1, c1, A2, c2, rfl, k1, k2, q1, q2, hb⟩; have K1 := Aside0.mk k1; have K2 := Aside0.mk k2; have Q1 := Aside0.mk q1; have Q2 := Aside0.mk q2; have HB := Aside0.mk (below_step HB.out hb); (try have HL := Aside0.mk (Kd.C_below HL.out hb)); (try have HR := Aside0.mk (blk_below HR.out hb)); clear k1 k2 q1 q2 hb)
  | (go_at_call 31; (with_reducible refine (day_plain _).mono ?_); rintro e w2 ⟨A3, c3, rfl, k3, q3, hb⟩; have K3 := Aside0.mk k3; have Q1 := Aside0.mk (Kd.C_below Q1.out hb); have Q2 := Aside0.mk (Kd.C_below Q2.out hb); have Q3 := Aside0.mk q3; have HB := Aside0.mk (below_step HB.out hb); (try have HL := Aside0.mk (Kd.C_below HL.out hb)); (try have HR := Aside0.mk (blk_below HR.out hb)); clear k3 q3 hb)
  | (go_at_call 21; (with_reducible refine (look1 A1 c1 A2 c2 A3 c3 _ K1.out K2.out K3.out Q1.out Q2.out Q3.out).mono ?_); rintro e w3 ⟨rfl, hb⟩; have HB := Aside0.mk (below_step HB.out hb); (try have HL := Aside0.mk (Kd.C_below HL.out hb)); (try have HR := Aside0.mk (blk_below HR.out hb)); clear hb)
  | (go_at_call 21; (with_reducible refine (look3 A1 c1 A2 c2 A3 c3 _ K1.out K2.out K3.out Q1.out Q2.out Q3.out).mono ?_); rintro e w3 ⟨rfl, hb⟩; have HB := Aside0.mk (below_step HB.out hb); (try have HL := Aside0.mk (Kd.C_below HL.out hb)); (try have HR := Aside0.mk (blk_below HR.out hb)); clear hb)
  | (go_at_call 21; (with_reducible refine (look5 A1 c1 A2 c2 A3 c3 _ K1.out K2.out K3.out Q1.out Q2.out Q3.out).mono ?_); rintro e w3 ⟨rfl, hb⟩; have HB := Aside0.mk (below_step HB.out hb); (try have HL := Aside0.mk (Kd.C_below HL.out hb)); (try have HR := Aside0.mk (blk_below HR.out hb)); clear hb)
  | (go_at_call 12; (with_reducible refine (lookB A1 c1 A2 c2 A3 c3 _ K1.out K2.out K3.out Q1.out Q2.out Q3.out).mono ?_); rintro e w3 ⟨AB, cB, rfl, qB, hb⟩; have HL := Aside0.mk qB; have HB := Aside0.mk (below_step HB.out hb); clear qB hb)
  | (go_at_call 15; (with_reducible refine (lookM A1 c1 A2 c2 A3 c3 _ K1.out K2.out K3.out Q1.out Q2.out Q3.out).mono ?_); rintro e wM ⟨rfl, hb⟩; have HL := Aside0.mk (Kd.C_below (Kd.C_below HL.out hb) ((Below.refl _ wM).alloc (Nat.le_refl _) (.cells #[.int .i64 1, .int .i64 50] 35))); have HB := Aside0.mk ((below_step HB.out hb).alloc (below_step HB.out hb).size (.cells #[.int .i64 1, .int .i64 50] 35)); have HR := Aside0.mk (blk_new wM (.cells #[.int .i64 1, .int .i64 50] 35)); clear hb)
  | (go_at_call 17; (with_reducible refine (lookL A1 c1 A2 c2 A3 c3 _ K1.out K2.out K3.out Q1.out Q2.out Q3.out).mono ?_); rintro e wL ⟨AP, cP, AQ, cQ, AO, cO, rfl, qP, qQ, hb⟩; have HL := Aside0.mk (Kd.C_below HL.out hb); have HR := Aside0.mk (blk_below HR.out hb); have HB := Aside0.mk (below_step HB.out hb); obtain ⟨adB, rfl, x0⟩ := C_atz HL.out zq52; obtain ⟨adB', eB, x1⟩ := C_at1 HL.out zq52; cases eB; obtain ⟨adP, rfl, x2⟩ := C_atz qP zq52; obtain ⟨adQ, rfl, x3⟩ := C_atz qQ zq52; obtain ⟨adQ', eQ, x4⟩ := C_at1 qQ zq52; cases eQ; have x5 := (blk_cell HR.out 0).trans (rfl : _ = some (Value.int .i64 1)); have x6 := (blk_cell HR.out 1).trans (rfl : _ = some (Value.int .i64 50)); simp only [List.getD_cons_zero, List.getD_cons_succ] at x0 x1 x2 x3 x4; clear qP qQ hb))
 all_goals (go_ret; exact ⟨rfl, HB.out⟩)
theorem many_l1 (a0 : Int) (fl : List S58) (st : List S56) (h : st.length ≤ 20) : ∀ r i k (n : Int), i + r = st.length → r < k → ∃ b, culletlaw07_many.l1 k n (i : Int) a0 fl st = some b
 | 0, i, k, n, hi, hk => by
  obtain ⟨k, rfl⟩ : ∃ m, k = m + 1 := ⟨k - 1, zq21⟩
  rw [culletlaw07_many.l1, if_neg zq21]
  exact ⟨_, rfl⟩
 | r + 1, i, k, n, hi, hk => by
  obtain ⟨k, rfl⟩ : ∃ m, k = m + 1 := ⟨k - 1, zq21⟩
  rw [culletlaw07_many.l1, if_pos zq21, if_pos zq21, wsucc i zq21]
  exact many_l1 a0 fl st h r (i + 1) k _ zq21 zq21
theorem many_l0 (a0 : Int) (fl : List S58) (st : List S56) (hf : fl.length ≤ 20) (h : st.length ≤ 20) : ∀ r i k (n : Int), i + r = fl.length → r + 22 < k → ∃ b, culletlaw07_many.l0 k n (i : Int) a0 fl st = some b
 | 0, i, k, n, hi, hk => by
  obtain ⟨k, rfl⟩ : ∃ m, k = m + 1 := ⟨k - 1, zq21⟩
  rw [culletlaw07_many.l0, if_neg zq21]
  exact many_l1 a0 fl st h st.length 0 k n zq21 zq21
 | r + 1, i, k, n, hi, hk => by
  obtain ⟨k, rfl⟩ : ∃ m, k = m + 1 := ⟨k - 1, zq21⟩
  rw [culletlaw07_many.l0, if_pos zq21, if_pos zq21, wsucc i zq21]
  exact many_l0 a0 fl st hf h r (i + 1) k _ zq21 zq21
theorem many_some (a0 : Int) (fl : List S58) (st : List S56) (l : List S45) (k : Nat) (hk : 60 ≤ k) : ∃ b, culletlaw07_many.f k a0 fl st l = some b ∧ (b = false → fl.length ≤ 20 ∧ st.length ≤ 20 ∧ l.length ≤ 600) := by
 obtain ⟨k, rfl⟩ : ∃ m, k = m + 1 := ⟨k - 1, zq21⟩
 have ht : culletlaw07_many.j0 (k + 1) true a0 fl st = some true := by rw [culletlaw07_many.j0, if_pos rfl]
 unfold culletlaw07_many.f
 by_cases h1 : (fl.length : Int) > 20
 ·rw [if_pos h1, ht]
  exact ⟨true, rfl, fun h => by cases h⟩
 ·rw [if_neg h1]
  by_cases h2 : (st.length : Int) > 20
  ·rw [if_pos h2, ht]
   exact ⟨true, rfl, fun h => by cases h⟩
  ·rw [if_neg h2]
   have hf : ∃ b, culletlaw07_many.j0 (k + 1) false a0 fl st = some b := by
    rw [culletlaw07_many.j0, if_neg zq52]
    exact many_l0 a0 fl st zq21 zq21 fl.length 0 k 0 zq21 zq21
   have hlast : ∃ b, culletlaw07_many.j0 (k + 1) (decide ((l.length : Int) > 600)) a0 fl st = some b ∧ (b = false → fl.length ≤ 20 ∧ st.length ≤ 20 ∧ l.length ≤ 600) := by
    by_cases h3 : (l.length : Int) > 600
    ·rw [decide_eq_true h3, ht]
     exact ⟨true, rfl, fun h => by cases h⟩
    ·rw [decide_eq_false h3]
     obtain ⟨b, hb⟩ := hf
     exact ⟨b, hb, fun _ => by omega⟩
   by_cases h4 : (l.length : Int) > 40
   ·rw [if_pos h4]
    by_cases h5 : (l.length : Int) ≤ 512
    ·rw [if_pos h5, ht]
     exact ⟨true, rfl, fun h => by cases h⟩
    ·rw [if_neg h5]
     exact hlast
   ·rw [if_neg h4]
    exact hlast
end Go.Proofs.Ytbpebehbfpgjbaa.P
end
