/- Texts of the proof, joined: what they prove stands at each theorem. -/
import Derived.Test.YtbpebehbfpgjbaaCbb
import Derived.Test.YtbpebehbfpgjbaaCbd
import Derived.Test.YtbpebehbfpgjbaaCbe
import Derived.Test.YtbpebehbfpgjbaaCbf
import Derived.Test.YtbpebehbfpgjbaaCbj
section
namespace Go.Proofs.Ytbpebehbfpgjbaa.P
open Go.RowKit Go.Proofs.YtbpebehbfpgjbaaW.PrintWords Go.Proofs.YtbpebehbfpgjbaaW.PrintLast Go.Proofs.YtbpebehbfpgjbaaW.PrintMore
set_option linter.unusedVariables false
set_option linter.unusedSimpArgs false
set_option maxHeartbeats 4000000 in
set_option maxRecDepth 100000 in
theorem inspect_lowest.calls (n d : Nat) (w : World) (hd : 0 < d) (hn : n ≤ 1000000000000) (hd2 : d ≤ 1000000000000) :
  Calls Try.prog 39 #[.int .i64 (n : Int), .int .i64 (d : Int)] w fun e w' => e = .returned (.agg #[.int .i64 ((n / Nat.gcd n d : Nat) : Int), .int .i64 ((d / Nat.gcd n d : Nat) : Int)]) ∧ Below w.heap.size w w' := by
 have HX := Aside0.mk (blk_new w (.cells #[.int .i64 0, .int .i64 0] 35))
 have HB := Aside0.mk ((Below.refl w.heap.size w).alloc (Nat.le_refl _) (.cells #[.int .i64 0, .int .i64 0] 35))
 have HD := Aside0.mk hd
 clear hd
 go_enter Try.func39, Try.ntmps39
 go_wp2
 go_loopg [5, 6] d (fun gg s5 s6 wr => ∃ a b : Nat, s5 = .int .i64 (a : Int) ∧ s6 = .int .i64 (b : Int) ∧ Aside0 (b ≤ gg ∧ a ≤ 1000000000000 ∧ b ≤ 1000000000000 ∧ Nat.gcd a b = Nat.gcd n d ∧ (0 < a ∨ 0 < b)) ∧ Aside0 (Below w.heap.size w wr) ∧
  Aside0 (wr.heap[w.heap.size]? = some (.cells #[.int .i64 0, .int .i64 0] 35 (0, 0))))
 case atStart => exact ⟨n, d, rfl, rfl, ⟨zq17, hn, hd2, rfl, .inr HD.out⟩, HB, HX⟩
 case round =>
  obtain ⟨a, b, rfl, rfl, hi, HB, HX⟩ := hrel
  by_cases hb : b = 0
  ·subst hb
   have hg : a = Nat.gcd n d := by have := hi.out.2.2.2.1; rwa [Nat.gcd_zero_right] at this
   have ha : 0 < a := by have := hi.out.2.2.2.2; omega
   have hq1 : Int.tdiv (n : Int) (a : Int) = ((n / a : Nat) : Int) := by rw [Int.tdiv_eq_ediv_of_nonneg zq17]; rfl
   have hq2 : Int.tdiv (d : Int) (a : Int) = ((d / a : Nat) : Int) := by rw [Int.tdiv_eq_ediv_of_nonneg zq17]; rfl
   have hb1 : n / a ≤ 1000000000000 := Nat.le_trans (Nat.div_le_self _ _) hn
   have hb2 : d / a ≤ 1000000000000 := Nat.le_trans (Nat.div_le_self _ _) hd2
   have HE := Aside0.mk (show n / Nat.gcd n d = n / a ∧ d / Nat.gcd n d = d / a by rw [← hg]; exact ⟨rfl, rfl⟩)
   generalize n / a = x at hq1 hb1 HE
   generalize d / a = y at hq2 hb2 HE
   have hw1 : IntKind.i64.wrap (x : Int) = (x : Int) := Go.IntWalk.i64_in _ zq17
   have hw2 : IntKind.i64.wrap (y : Int) = (y : Int) := Go.IntWalk.i64_in _ zq17
   have x0 := (blk_cell HX.out 0).trans (rfl : _ = some (Value.int .i64 0))
   have x1 := (blk_cell HX.out 1).trans (rfl : _ = some (Value.int .i64 0))
   have f0 := blk_frozen HX.out 0
   have f1 := blk_frozen HX.out 1
   have ha0 : ((a : Int) == 0) = false := by simp; omega
   have ha1 : (a : Int) ≠ 0 := by omega
   clear hg hn hd2
   go_wp2
   go_region
   go_wp2
   have e1 := blk_put (cs' := #[.int .i64 (x : Int), .int .i64 0]) HX.out 0 (.int .i64 (x : Int)) rfl
   have e2 := blk_put (cs' := #[.int .i64 (x : Int), .int .i64 (y : Int)]) e1 1 (.int .i64 (y : Int)) rfl
   refine bodyPost_ret (results_cell_row rfl _ _ w.heap.size 35 #[.int .i64 (x : Int), .int .i64 (y : Int)] (0, 0) _ rfl (blk_drew e2) Try.underlying35 rfl zq22) rfl ⟨by rw [HE.out.1, HE.out.2], ?_⟩
   exact ((HB.out.setCell (p := ⟨w.heap.size, 0, none⟩) zq63 _).setCell (p := ⟨w.heap.size, 1, none⟩) zq63 _).drew
  ·have hbb : ((b : Int) == 0) = false := by simp; omega
   have hb1 : (b : Int) ≠ 0 := by omega
   have hr : Int.tmod (a : Int) (b : Int) = ((a % b : Nat) : Int) := by rw [Int.tmod_eq_emod_of_nonneg zq17]; rfl
   have hlt : a % b < b := Nat.mod_lt _ zq17
   have hw : IntKind.i64.wrap ((a % b : Nat) : Int) = ((a % b : Nat) : Int) := Go.IntWalk.i64_in _ zq128
   have hg : Nat.gcd b (a % b) = Nat.gcd n d := by rw [← hi.out.2.2.2.1, Nat.gcd_comm b, ← Nat.gcd_rec, Nat.gcd_comm]
   generalize a % b = c at *
   go_wp2
   go_quiet (fail)
   go_wp2
   go_roundg c
   case measure => have := hi.out; omega
   case rel => exact ⟨b, c, rfl, rfl, ⟨Nat.le_refl _, zq128, zq128, hg, .inl zq17⟩, ⟨pw_below_drewN HB.out _⟩, ⟨blk_drewN HX.out _⟩⟩
set_option maxHeartbeats 4000000 in
set_option maxRecDepth 100000 in
theorem inspect_less.calls (n d m e : Nat) (w : World) (hn : n ≤ 1000000000000) (hd : d ≤ 1000000000000) (hm : m ≤ 1000000000000) (he : e ≤ 1000000000000) :
  Calls Try.prog 40 #[.agg #[.int .i64 (n : Int), .int .i64 (d : Int)], .agg #[.int .i64 (m : Int), .int .i64 (e : Int)]] w fun e_ w' => e_ = .returned (.bool (decide (n * e < m * d))) ∧ Below w.heap.size w w' := by
 have c1 := Try.bits_Mul64 n e zq17 zq17
 have c2 := Try.bits_Mul64 m d zq17 zq17
 have HB := Aside0.mk (((Below.refl w.heap.size w).alloc (Nat.le_refl _) (.cells #[.int .i64 (n : Int), .int .i64 (d : Int)] 35)).alloc zq63 (.cells #[.int .i64 (m : Int), .int .i64 (e : Int)] 35))
 have hx1 : n * e / 18446744073709551616 * 18446744073709551616 + n * e % 18446744073709551616 = n * e := Nat.div_add_mod' _ _
 have hx2 : m * d / 18446744073709551616 * 18446744073709551616 + m * d % 18446744073709551616 = m * d := Nat.div_add_mod' _ _
 have hl1 : n * e % 18446744073709551616 < 18446744073709551616 := Nat.mod_lt _ zq56
 have hl2 : m * d % 18446744073709551616 < 18446744073709551616 := Nat.mod_lt _ zq56
 generalize n * e / 18446744073709551616 = a1 at c1 hx1
 generalize n * e % 18446744073709551616 = b1 at c1 hx1 hl1
 generalize m * d / 18446744073709551616 = a2 at c2 hx2
 generalize m * d % 18446744073709551616 = b2 at c2 hx2 hl2
 rw [← hx1, ← hx2]
 have k1 : (convert 3 114 (.int .i64 (n : Int))) = (convert 3 114 (.int .i64 (n : Int))) := rfl
 have hans : decide (a1 * 18446744073709551616 + b1 < a2 * 18446744073709551616 + b2) = (decide (a1 < a2) || (decide (a1 = a2) && decide (b1 < b2))) := by
  by_cases h1 : a1 < a2
  ·simp [h1]; omega
  ·by_cases h2 : a1 = a2
   ·subst h2; simp
   ·simp [h1, h2]; omega
 rw [hans]
 clear hans hx1 hx2 hl1 hl2
 go_enter Try.func40, Try.ntmps40
 go_wp2_with (first | (go_at_call 65; (with_reducible refine (c1 _).mono ?_); rintro e w1 ⟨rfl, rfl⟩) | (go_at_call 65; (with_reducible refine (c2 _).mono ?_); rintro e w1 ⟨rfl, rfl⟩))
 all_goals (go_ret; refine ⟨?_, HB.out⟩; by_cases h1 : a1 < a2 <;> by_cases h2 : a1 = a2 <;> by_cases h3 : b1 < b2 <;> simp_all <;> omega)
end Go.Proofs.Ytbpebehbfpgjbaa.P
end
section
namespace Go.Proofs.Ytbpebehbfpgjbaa.P
open Go.RowKit Go.Proofs.YtbpebehbfpgjbaaW.PrintWords Go.Proofs.YtbpebehbfpgjbaaW.PrintLast Go.Proofs.YtbpebehbfpgjbaaW.PrintMore
set_option linter.unusedVariables false
set_option linter.unusedSimpArgs false
open GM
def clmV (st : List S56) (s k : Int) : S68 := rd_T68 (rd_T56 st s).f1 (idxOf (fun x : S68 => x.f0 == k) (rd_T56 st s).f1)
theorem claim_val (a0 : Int) (fl : List S58) (st : List S56) (s k : Int) (h0 : 0 ≤ s) (h1 : s < st.length) (hc : clmB st s k = true) : inspect_claim.f a0 fl st s k = some ((clmV st s k).f0, (clmV st s k).f1, (clmV st s k).f2, true) := by
 unfold inspect_claim.f IdxClaim.f clmV
 unfold clmB at hc
 rw [if_pos h0, if_pos h1]
 simp only [Option.bind_some]
 have h2 := idxOf_any (fun x : S68 => x.f0 == k) (rd_T56 st s).f1
 have h3 := idxOf_lo (fun x : S68 => x.f0 == k) (rd_T56 st s).f1
 rw [hc] at h2
 have h4 := of_decide_eq_true h2
 rw [if_neg zq17, if_pos h4, if_pos h3.2]
theorem trU_claim {every : Int} {st : List S56} {l : List S45} {s k entry : Int} (h : trU every st l s k entry = 1) : clmB st s k = true := by
 unfold trU trustS at h
 cases hc : clmB st s k
 ·rw [hc, if_pos rfl] at h
  exact absurd h zq56
 ·rfl
theorem Valid.claim {every : Int} {fl : List S58} {st : List S56} {l : List S45} (h : Valid every fl st l) {s k : Int} (h0 : 0 ≤ s) (h1 : s < st.length) (hc : clmB st s k = true) : 0 ≤ (clmV st s k).f1 ∧ (clmV st s k).f1 ≤ (clmV st s k).f2 ∧ 1 ≤ (clmV st s k).f2 ∧ (clmV st s k).f2 ≤ 1000 := by
 have hs := h.se s.toNat zq17
 have hcast : ((s.toNat : Nat) : Int) = s := by omega
 unfold standErr at hs
 rw [hcast] at hs
 split at hs
 ·exact absurd hs zq56
 ·split at hs
  ·exact absurd hs zq56
  ·unfold claimsS at hs
   split at hs
   ·exact absurd hs zq56
   ·have h2 := idxOf_any (fun x : S68 => x.f0 == k) (rd_T56 st s).f1
    have h3 := idxOf_lo (fun x : S68 => x.f0 == k) (rd_T56 st s).f1
    unfold clmB at hc
    rw [hc] at h2
    have h4 := of_decide_eq_true h2
    have h5 := firstErr_zero _ _ _ hs (idxOf (fun x : S68 => x.f0 == k) (rd_T56 st s).f1).toNat zq17 zq17
    unfold claimErr at h5
    rw [show (((idxOf (fun x : S68 => x.f0 == k) (rd_T56 st s).f1).toNat : Nat) : Int) = idxOf (fun x : S68 => x.f0 == k) (rd_T56 st s).f1 from by omega] at h5
    unfold clmV
    split at h5
    ·exact absurd h5 zq56
    ·split at h5
     ·exact absurd h5 zq56
     ·split at h5
      ·exact absurd h5 zq56
      ·rename_i h6
       split at h5
       ·exact absurd h5 zq56
       ·rename_i h7
        have h6 := win_true (by simpa using h6)
        have h7 := win_true (by simpa using h7)
        omega
def shareP (every : Int) (st : List S56) (l : List S45) (k entry : Int) : Nat → Nat × Nat
 | 0 => (1, 1)
 | j + 1 =>
  let p := shareP every st l k entry j
  if trU every st l j k entry = 1 then
   let a := p.1 * (clmV st j k).f1.toNat
   let b := p.2 * (clmV st j k).f2.toNat
   (a / Nat.gcd a b, b / Nat.gcd a b)
  else p
theorem shareP_bound {every : Int} {fl : List S58} {st : List S56} {l : List S45} (h : Valid every fl st l) (k entry : Int) : ∀ j, j ≤ st.length → (shareP every st l k entry j).1 ≤ 1000 ^ j ∧ (shareP every st l k entry j).2 ≤ 1000 ^ j ∧ 0 < (shareP every st l k entry j).2
 | 0, _ => by simp [shareP]
 | j + 1, hj => by
  obtain ⟨h1, h2, h3⟩ := shareP_bound h k entry j zq17
  have hp : 1000 ^ (j + 1) = 1000 ^ j * 1000 := Nat.pow_succ ..
  unfold shareP
  by_cases ht : trU every st l j k entry = 1
  ·simp only [ht, if_true]
   obtain ⟨c1, c2, c3, c4⟩ := h.claim (s := j) (k := k) zq17 zq17 (trU_claim ht)
   have hb : 0 < (shareP every st l k entry j).2 * (clmV st j k).f2.toNat := Nat.mul_pos h3 zq17
   refine ⟨?_, ?_, Nat.div_pos (Nat.gcd_le_right _ hb) (Nat.gcd_pos_of_pos_right _ hb)⟩
   ·refine Nat.le_trans (Nat.div_le_self _ _) ?_
    rw [hp]
    exact Nat.mul_le_mul h1 zq17
   ·refine Nat.le_trans (Nat.div_le_self _ _) ?_
    rw [hp]
    exact Nat.mul_le_mul h2 zq17
  ·simp only [ht, if_false]
   rw [hp]
   omega
def missP (every : Int) (fl : List S58) (st : List S56) (l : List S45) (k : Int) : Nat → Nat × Nat × Nat
 | 0 => (0, 1, 0)
 | n + 1 =>
  let p := missP every fl st l k n
  if vdS every fl st l n = 2 then
   let s := shareP every st l k n st.length
   if p.1 * s.2 < s.1 * p.2.1 then (s.1, s.2, p.2.2 + 1) else (p.1, p.2.1, p.2.2 + 1)
  else p
theorem pow4 {j : Nat} (h : j ≤ 4) : 1000 ^ j ≤ 1000000000000 := by
 have : 1000 ^ j ≤ 1000 ^ 4 := Nat.pow_le_pow_right zq56 h
 simpa using this
theorem missP_bound {every : Int} {fl : List S58} {st : List S56} {l : List S45} (h : Valid every fl st l) (k : Int) : ∀ n, (missP every fl st l k n).1 ≤ 1000000000000 ∧ (missP every fl st l k n).2.1 ≤ 1000000000000 ∧ 0 < (missP every fl st l k n).2.1 ∧ (missP every fl st l k n).2.2 ≤ n
 | 0 => by simp [missP]
 | n + 1 => by
  obtain ⟨h1, h2, h3, h4⟩ := missP_bound h k n
  obtain ⟨s1, s2, s3⟩ := shareP_bound h k n st.length (Nat.le_refl _)
  have hp := pow4 h.n2
  unfold missP
  by_cases hv : vdS every fl st l n = 2
  ·simp only [hv, if_true]
   split
   ·simp only; omega
   ·simp only; omega
  ·simp only [hv, if_false]
   omega
def missF (a0_0 : Int) (l0_1 : List S58) (l0_2 : List S56) (l1 : List S45) (a2 : Int) : Int × Int × Int × Int :=
 if logS a0_0 l0_1 l0_2 l1 ≠ 0 then (0, 0, 0, logS a0_0 l0_1 l0_2 l1) else if win a2 0 ((l0_1.length : Int) - 1) = false then (0, 0, 0, 7) else
 (((missP a0_0 l0_1 l0_2 l1 a2 l1.length).1 : Nat), ((missP a0_0 l0_1 l0_2 l1 a2 l1.length).2.1 : Nat), ((missP a0_0 l0_1 l0_2 l1 a2 l1.length).2.2 : Nat), 0)
def inspect_Missed.f (a0_0 : Int) (l0_1 : List S58) (l0_2 : List S56) (l1 : List S45) (a2 : Int) : Option (Int × Int × Int × Int) := some (missF a0_0 l0_1 l0_2 l1 a2)
theorem DeskIs.setCell {W : World} {b : Nat} {l : List S45} (h : DeskIs W b l) {g : Nat} {cs : Array Value} {t : TypeId} {fr : Nat × Nat} (hg : W.heap[g]? = some (.cells cs t fr)) (ht : t ≠ 3) (j : Nat) (v : Value) : DeskIs (W.setCell ⟨g, j, none⟩ v) b l := by
 obtain ⟨base, es, clock, h1, h2, h3, h4, h5⟩ := h
 have hbg : b ≠ g := fun e => by rw [← e, h1] at hg; cases hg
 refine ⟨base, es, clock, (Below.heap_setCell W ⟨g, j, none⟩ v b hbg).trans h1, h2, fun x hx => ?_, h4, h5⟩
 obtain ⟨a1, a2, a3⟩ := h3 x hx
 exact ⟨a1, a2, own_move a3 (fun k hk => Below.heap_setCell W ⟨g, j, none⟩ v k (fun e => own_ne_cells a3 hg ht (by rw [hk, e])))⟩
def clmR (st : List S56) (s c : Int) : Int × Int × Int × Bool := if clmB st s c = true then ((clmV st s c).f0, (clmV st s c).f1, (clmV st s c).f2, true) else (0, 0, 0, false)
theorem rclaim_l0 (a0 : Int) (fl : List S58) (st : List S56) (s c : Int) (h0 : 0 ≤ s) (h1 : s < st.length) (hL : (rd_T56 st s).f1.length ≤ 8) : ∀ r j k, j + r = (rd_T56 st s).f1.length → r < k → (∀ j', j' < j → ((rd_T68 (rd_T56 st s).f1 j').f0 == c) = false) →
  culletref07_claim.l0 k s c (j : Int) a0 fl st = some (clmR st s c)
 | 0, j, k, h, hk, hj => by
  obtain ⟨k, rfl⟩ : ∃ m, k = m + 1 := ⟨k - 1, zq17⟩
  have hm := idxOf_miss (fun x : S68 => x.f0 == c) z68 (rd_T56 st s).f1 (fun j' hj' => by simpa [rd_T68] using hj j' zq17)
  have ha := idxOf_any (fun x : S68 => x.f0 == c) (rd_T56 st s).f1
  rw [hm] at ha
  have hb : clmB st s c = false := by unfold clmB; rw [← ha]; rfl
  rw [culletref07_claim.l0, if_pos h0, if_pos h1, if_neg zq17]
  unfold clmR
  rw [hb]
  rfl
 | r + 1, j, k, h, hk, hj => by
  obtain ⟨k, rfl⟩ : ∃ m, k = m + 1 := ⟨k - 1, zq17⟩
  rw [culletref07_claim.l0, if_pos h0, if_pos h1, if_pos zq17, if_pos zq17]
  by_cases hc : (rd_T68 (rd_T56 st s).f1 (j : Int)).f0 = c
  ·have hm := idxOf_hit (fun x : S68 => x.f0 == c) z68 (rd_T56 st s).f1 j zq17 (fun j' hj' => by simpa [rd_T68] using hj j' hj') (by simpa [rd_T68] using hc)
   have ha := idxOf_any (fun x : S68 => x.f0 == c) (rd_T56 st s).f1
   rw [hm] at ha
   have hb : clmB st s c = true := by unfold clmB; rw [← ha]; exact decide_eq_true zq17
   rw [if_pos hc]
   unfold clmR clmV
   rw [hb, hm]
   rfl
  ·rw [if_neg hc, wsucc j zq17]
   exact rclaim_l0 a0 fl st s c h0 h1 hL r (j + 1) k zq17 zq17 (fun j' hj' => by
    by_cases he : j' = j
    ·subst he; simpa using hc
    ·exact hj j' zq17)
theorem rclaim_eq (a0 : Int) (fl : List S58) (st : List S56) (s c : Int) (h0 : 0 ≤ s) (h1 : s < st.length) (hL : (rd_T56 st s).f1.length ≤ 8) (k : Nat) (hk : 10 ≤ k) : culletref07_claim.f k a0 fl st s c = some (clmR st s c) :=
 rclaim_l0 a0 fl st s c h0 h1 hL (rd_T56 st s).f1.length 0 k zq17 zq17 (fun j' hj' => by omega)
theorem clmR_b (st : List S56) (s c : Int) : (clmR st s c).2.2.2 = clmB st s c := by
 unfold clmR
 cases h : clmB st s c <;> rfl
theorem rRun_eq (a0 : Int) (fl : List S58) (st : List S56) (x : S45) (hL : ∀ i, i < st.length → (rd_T56 st (i : Nat)).f1.length ≤ 8) (k : Nat) (hk : 12 ≤ k) : culletref07_checkRun.f k a0 fl st x.f0 x.f1 x.f2 x.f3 x.f4 x.f5 x.f6 = some (entErr fl st x) := by
 obtain ⟨k, rfl⟩ : ∃ m, k = m + 1 := ⟨k - 1, zq17⟩
 unfold culletref07_checkRun.f entErr
 by_cases h1 : x.f1 = 1
 ·rw [if_pos h1, if_pos h1]
  by_cases h2 : x.f2 < 0
  ·rw [if_pos h2, show win x.f2 0 1000000 = false from by unfold win; rw [show decide (0 ≤ x.f2) = false from decide_eq_false zq17]; rfl]
   rfl
  ·rw [if_neg h2]
   by_cases h3 : x.f2 > 1000000
   ·rw [if_pos h3, show win x.f2 0 1000000 = false from by unfold win; rw [show decide (x.f2 ≤ 1000000) = false from decide_eq_false zq17, Bool.and_false]]
    rfl
   ·rw [if_neg h3, show win x.f2 0 1000000 = true from by unfold win; rw [show decide (0 ≤ x.f2) = true from decide_eq_true zq17, show decide (x.f2 ≤ 1000000) = true from decide_eq_true zq17]; rfl]
    by_cases h4 : x.f3 < 0
    ·rw [if_pos h4, show win x.f3 0 999 = false from by unfold win; rw [show decide (0 ≤ x.f3) = false from decide_eq_false zq17]; rfl]
     rfl
    ·rw [if_neg h4]
     by_cases h5 : x.f3 > 999
     ·rw [if_pos h5, show win x.f3 0 999 = false from by unfold win; rw [show decide (x.f3 ≤ 999) = false from decide_eq_false zq17, Bool.and_false]]
      rfl
     ·rw [if_neg h5, show win x.f3 0 999 = true from by unfold win; rw [show decide (0 ≤ x.f3) = true from decide_eq_true zq17, show decide (x.f3 ≤ 999) = true from decide_eq_true zq17]; rfl]
      by_cases h6 : x.f4 = 0 <;> by_cases h7 : x.f5 = 0 <;> simp [h6, h7]
 ·rw [if_neg h1, if_neg h1]
  by_cases h2 : x.f4 < 0
  ·rw [if_pos h2, culletref07_checkRun.j0, if_pos rfl, show win x.f4 0 ((st.length : Int) - 1) = false from by unfold win; rw [show decide (0 ≤ x.f4) = false from decide_eq_false zq17]; rfl]
   rfl
  ·rw [if_neg h2]
   by_cases h3 : x.f4 ≥ st.length
   ·rw [if_pos h3, culletref07_checkRun.j0, if_pos rfl, show win x.f4 0 ((st.length : Int) - 1) = false from by unfold win; rw [show decide (x.f4 ≤ (st.length : Int) - 1) = false from decide_eq_false zq17, Bool.and_false]]
    rfl
   ·rw [if_neg h3, show win x.f4 0 ((st.length : Int) - 1) = true from by unfold win; rw [show decide (0 ≤ x.f4) = true from decide_eq_true zq17, show decide (x.f4 ≤ (st.length : Int) - 1) = true from decide_eq_true zq17]; rfl]
    by_cases h4 : x.f5 < 0
    ·rw [if_pos h4, culletref07_checkRun.j0, if_pos rfl, show win x.f5 0 ((fl.length : Int) - 1) = false from by unfold win; rw [show decide (0 ≤ x.f5) = false from decide_eq_false zq17]; rfl]
     rfl
    ·rw [if_neg h4]
     by_cases h5 : x.f5 ≥ fl.length
     ·rw [decide_eq_true h5, culletref07_checkRun.j0, if_pos rfl, show win x.f5 0 ((fl.length : Int) - 1) = false from by unfold win; rw [show decide (x.f5 ≤ (fl.length : Int) - 1) = false from decide_eq_false zq17, Bool.and_false]]
      rfl
     ·have hl := hL x.f4.toNat zq17
      rw [show ((x.f4.toNat : Nat) : Int) = x.f4 from by omega] at hl
      rw [decide_eq_false h5, culletref07_checkRun.j0, if_neg zq56, rclaim_eq a0 fl st x.f4 x.f5 zq17 zq17 hl k zq17, Option.bind_some, clmR_b, show win x.f5 0 ((fl.length : Int) - 1) = true from by unfold win; rw [show decide (0 ≤ x.f5) = true from decide_eq_true zq17, show decide (x.f5 ≤ (fl.length : Int) - 1) = true from decide_eq_true zq17]; rfl]
      by_cases h6 : x.f2 = 0 <;> by_cases h7 : x.f3 = 0 <;> cases clmB st x.f4 x.f5 <;> simp [h6, h7]
theorem chkS_claims {every : Int} {fl : List S58} {st : List S56} (h : chkS every fl st = 0) : ∀ i, i < st.length → (rd_T56 st (i : Nat)).f1.length ≤ 8 := fun i hi => by
 have hs := (chkS_zero h).2.2.2.2 i hi
 unfold standErr at hs
 split at hs
 ·exact absurd hs zq56
 ·split at hs
  ·exact absurd hs zq56
  ·unfold claimsS at hs
   split at hs
   ·exact absurd hs zq56
   ·omega
theorem rLog_l0 (a0 : Int) (fl : List S58) (st : List S56) (l : List S45) (hL : ∀ i, i < st.length → (rd_T56 st (i : Nat)).f1.length ≤ 8) (hl : l.length ≤ 512) : ∀ r i k, i + r = l.length → 3 * r + 20 < k → culletref07_CheckLog.l0 k l (i : Int) a0 fl st = some (firstErr (runErr fl st l) r i)
 | 0, i, k, h, hk => by
  obtain ⟨k, rfl⟩ : ∃ m, k = m + 1 := ⟨k - 1, zq17⟩
  rw [culletref07_CheckLog.l0, if_neg zq17]
  rfl
 | r + 1, i, k, h, hk => by
  obtain ⟨k, rfl⟩ : ∃ m, k = m + 1 + 1 + 1 := ⟨k - 3, zq17⟩
  have ih := rLog_l0 a0 fl st l hL hl r (i + 1) k zq17 zq17
  rw [firstErr_succ]
  have hj2 : ∀ b, culletref07_CheckLog.j2 (k + 1) l (i : Int) b a0 fl st (rd_T45 l i).f0 (rd_T45 l i).f1 (rd_T45 l i).f2 (rd_T45 l i).f3 (rd_T45 l i).f4 (rd_T45 l i).f5 (rd_T45 l i).f6 = some (if b = true then 8 else if entErr fl st (rd_T45 l i) = 0 then firstErr (runErr fl st l) r (i + 1) else entErr fl st (rd_T45 l i)) := by
   intro b
   rw [culletref07_CheckLog.j2, rRun_eq a0 fl st _ hL k zq17, wsucc i zq17, ih, Option.bind_some]
   cases b
   ·simp only [Bool.false_eq_true, if_false]
    split <;> rfl
   ·rfl
  have hj1 : culletref07_CheckLog.j1 (k + 1 + 1) l (i : Int) false a0 fl st (rd_T45 l i).f0 (rd_T45 l i).f1 (rd_T45 l i).f2 (rd_T45 l i).f3 (rd_T45 l i).f4 (rd_T45 l i).f5 (rd_T45 l i).f6 = some (if 0 < i ∧ (rd_T45 l ((i : Int) - 1)).f0 > (rd_T45 l i).f0 then 8 else if entErr fl st (rd_T45 l i) = 0 then firstErr (runErr fl st l) r (i + 1) else entErr fl st (rd_T45 l i)) := by
   rw [culletref07_CheckLog.j1, wpred i zq17, if_neg zq56]
   by_cases h0 : 0 < i
   ·rw [if_pos zq17, if_pos zq17, if_pos zq17, hj2]
    by_cases h1 : (rd_T45 l ((i : Int) - 1)).f0 > (rd_T45 l i).f0
    ·rw [decide_eq_true h1, if_pos rfl, if_pos (show 0 < i ∧ _ from ⟨h0, h1⟩)]
    ·rw [decide_eq_false h1, if_neg (show ¬ false = true by decide), if_neg (show ¬ (0 < i ∧ _) from fun hh => h1 hh.2)]
   ·rw [if_neg zq17, hj2, if_neg (show ¬ false = true by decide), if_neg (show ¬ (0 < i ∧ _) from fun hh => h0 hh.1)]
  have hjt : culletref07_CheckLog.j1 (k + 1 + 1) l (i : Int) true a0 fl st (rd_T45 l i).f0 (rd_T45 l i).f1 (rd_T45 l i).f2 (rd_T45 l i).f3 (rd_T45 l i).f4 (rd_T45 l i).f5 (rd_T45 l i).f6 = some 1 := by
   rw [culletref07_CheckLog.j1, if_pos rfl]
  rw [culletref07_CheckLog.l0, if_pos zq17, if_pos zq17]
  have hre : runErr fl st l i = if ¬ ((rd_T45 l i).f1 = 1 ∨ (rd_T45 l i).f1 = 2) then 1 else if win (rd_T45 l i).f0 0 1000000000 = false then 1 else
   if 0 < i ∧ (rd_T45 l ((i : Int) - 1)).f0 > (rd_T45 l i).f0 then 8 else entErr fl st (rd_T45 l i) := rfl
  have hre2 : ∀ c : Prop, [Decidable c] → (if (if c then (8 : Int) else entErr fl st (rd_T45 l i)) = 0 then firstErr (runErr fl st l) r (i + 1) else (if c then (8 : Int) else entErr fl st (rd_T45 l i))) = if c then 8 else if entErr fl st (rd_T45 l i) = 0 then firstErr (runErr fl st l) r (i + 1) else entErr fl st (rd_T45 l i) := by
   intro c _
   by_cases hc : c
   ·rw [if_pos hc, if_pos hc]; rfl
   ·rw [if_neg hc, if_neg hc]
  rw [hre]
  by_cases hk12 : (rd_T45 l i).f1 = 1 ∨ (rd_T45 l i).f1 = 2
  ·rw [if_neg (show ¬ ¬ ((rd_T45 l i).f1 = 1 ∨ (rd_T45 l i).f1 = 2) from fun h => h hk12)]
   have hred : ∀ (X Y Z : Option Int), X = Y → (if (rd_T45 l i).f1 = 1 then X else if (rd_T45 l i).f1 = 2 then Y else Z) = X := by
    rintro X Y Z rfl
    rcases hk12 with h1 | h1
    ·rw [if_pos h1]
    ·by_cases h2 : (rd_T45 l i).f1 = 1
     ·rw [if_pos h2]
     ·rw [if_neg h2, if_pos h1]
   rw [hred _ _ _ rfl]
   by_cases h1 : (rd_T45 l i).f0 < 0
   ·rw [if_pos h1, hjt, show win (rd_T45 l i).f0 0 1000000000 = false from by unfold win; rw [show decide (0 ≤ (rd_T45 l i).f0) = false from decide_eq_false zq17]; rfl]
    rfl
   ·rw [if_neg h1]
    by_cases h2 : (rd_T45 l i).f0 > 1000000000
    ·rw [decide_eq_true h2, hjt, show win (rd_T45 l i).f0 0 1000000000 = false from by unfold win; rw [show decide ((rd_T45 l i).f0 ≤ 1000000000) = false from decide_eq_false zq17, Bool.and_false]]
     rfl
    ·rw [decide_eq_false h2, hj1, show win (rd_T45 l i).f0 0 1000000000 = true from by unfold win; rw [show decide (0 ≤ (rd_T45 l i).f0) = true from decide_eq_true zq17, show decide ((rd_T45 l i).f0 ≤ 1000000000) = true from decide_eq_true zq17]; rfl, if_neg (show ¬ true = false by decide), hre2]
  ·rw [if_pos hk12, if_neg (fun h => hk12 (.inl h)), if_neg (fun h => hk12 (.inr h)), hjt]
   rfl
theorem rLog_eq (a0 : Int) (fl : List S58) (st : List S56) (l : List S45) (k : Nat) (hk : 2000 ≤ k) : culletref07_CheckLog.f k a0 fl st l = some (logS a0 fl st l) := by
 unfold culletref07_CheckLog.f logS
 rw [rCheck_eq a0 fl st k zq17, Option.bind_some]
 by_cases h0 : chkS a0 fl st = 0
 ·rw [if_pos h0, if_pos h0]
  by_cases h : 512 < l.length
  ·rw [if_pos zq17, if_pos h]
  ·rw [if_neg zq17, if_neg h]
   exact rLog_l0 a0 fl st l (chkS_claims h0) zq17 l.length 0 k zq17 zq17
 ·rw [if_neg h0, if_neg h0]
def isCh (l : List S45) (s c : Int) (n : Nat) : Prop := (l.getD n z45).f1 = 2 ∧ (l.getD n z45).f4 = s ∧ (l.getD n z45).f5 = c
instance (l : List S45) (s c : Int) (n : Nat) : Decidable (isCh l s c n) := by unfold isCh; infer_instance
def befN (l : List S45) (s c e : Int) : Nat → Int
 | 0 => -1
 | n + 1 => if isCh l s c n then (if (n : Int) < e then (n : Int) else befN l s c e n) else befN l s c e n
def behN (l : List S45) (s c e : Int) : Nat → Int
 | 0 => -1
 | n + 1 => if isCh l s c n then (if (n : Int) < e then behN l s c e n else if behN l s c e n < 0 then (n : Int) else behN l s c e n) else behN l s c e n
theorem chP_succ (l : List S45) (s c : Int) (n : Nat) : chP l s c (n + 1) = if isCh l s c n then chP l s c n ++ [(n : Int)] else chP l s c n := by
 show (if (l.getD n z45).f1 = 2 ∧ (l.getD n z45).f4 = s ∧ (l.getD n z45).f5 = c then chP l s c n ++ [(n : Int)] else chP l s c n) = _
 by_cases h : isCh l s c n
 ·rw [if_pos h]; exact if_pos h
 ·rw [if_neg h]; exact if_neg h
theorem nxt_app (L : List Int) (x : Int) (m : Int) (h : m < L.length) : nxt (L ++ [x]) m = nxt L m := by
 unfold nxt rd
 by_cases h0 : m < 0
 ·rw [if_pos (.inl h0), if_pos (.inl h0)]
 ·rw [if_neg (by simp; omega), if_neg zq17, List.getD_eq_getElem?_getD, List.getElem?_append_left zq17, ← List.getD_eq_getElem?_getD]
theorem nxt_end (L : List Int) (m : Int) (h : m = L.length) : nxt L m = -1 := by
 unfold nxt
 rw [if_pos zq17]
theorem nxt_last (L : List Int) (x m : Int) (h : m = L.length) : nxt (L ++ [x]) m = x := by
 unfold nxt rd
 rw [if_neg (by simp; omega), h, Int.toNat_natCast, List.getD_eq_getElem?_getD, List.getElem?_append_right (Nat.le_refl _)]
 simp
theorem nxt_mem (L : List Int) (m : Int) (h0 : 0 ≤ m) (h1 : m < L.length) : nxt L m ∈ L := by
 unfold nxt rd
 rw [if_neg zq17, List.getD_eq_getElem?_getD, List.getElem?_eq_getElem zq17]
 simp
theorem scan (l : List S45) (s c e : Int) : ∀ n, befN l s c e n = nxt (chP l s c n) ((chP l s c n).countP (· < e) + -1) ∧ behN l s c e n = nxt (chP l s c n) ((chP l s c n).countP (· < e) + 0)
 | 0 => by simp [befN, behN, chP, nxt]
 | n + 1 => by
  obtain ⟨h1, h2⟩ := scan l s c e n
  have hm := chP_mem l s c n
  have hle : (chP l s c n).countP (· < e) ≤ (chP l s c n).length := List.countP_le_length
  rw [chP_succ]
  unfold befN behN
  by_cases hc : isCh l s c n
  ·rw [if_pos hc, if_pos hc, if_pos hc]
   by_cases he : (n : Int) < e
   ·have hall : (chP l s c n).countP (· < e) = (chP l s c n).length := by
     rw [List.countP_eq_length]
     intro x hx
     have := hm x hx
     simp; omega
    rw [if_pos he, if_pos he, List.countP_append, hall]
    have h3 : List.countP (· < e) [(n : Int)] = 1 := by simp [he]
    rw [h3]
    refine ⟨(nxt_last _ _ _ zq17).symm, ?_⟩
    rw [h2, hall, nxt_end _ _ zq63, nxt_end _ _ zq63]
   ·rw [if_neg he, if_neg he, List.countP_append]
    have h3 : List.countP (· < e) [(n : Int)] = 0 := by simp; omega
    rw [h3, Nat.add_zero, nxt_app _ _ _ zq17, ← h1]
    refine ⟨rfl, ?_⟩
    by_cases hlt : (chP l s c n).countP (· < e) < (chP l s c n).length
    ·rw [nxt_app _ _ _ zq17, ← h2, if_neg]
     have := hm _ (nxt_mem (chP l s c n) ((chP l s c n).countP (· < e) + 0) zq17 zq17)
     rw [h2]
     omega
    ·rw [nxt_last _ _ _ zq17, if_pos]
     rw [h2, nxt_end _ _ zq17]
     decide
  ·rw [if_neg hc, if_neg hc, if_neg hc]
   exact ⟨h1, h2⟩
theorem befN_lo (l : List S45) (s c e : Int) : ∀ n, -1 ≤ befN l s c e n ∧ befN l s c e n < n
 | 0 => by simp [befN]
 | n + 1 => by
  have := befN_lo l s c e n
  unfold befN
  split
  ·split <;> omega
  ·omega
theorem behN_lo (l : List S45) (s c e : Int) : ∀ n, -1 ≤ behN l s c e n ∧ behN l s c e n < n
 | 0 => by simp [behN]
 | n + 1 => by
  have := behN_lo l s c e n
  unfold behN
  split
  ·split
   ·omega
   ·split <;> omega
  ·omega
theorem rtrust_j2 {every : Int} {fl : List S58} {st : List S56} {l : List S45} (hv : Valid every fl st l) (p q : Int) (hp : 0 ≤ p ∧ p < l.length) (hq : q < l.length) (k : Nat) (hk : 1 ≤ k) : culletref07_trusted.j2 k l p q (!(rd_T45 l p).f6) every fl st = some (trustP every l p q) := by
 obtain ⟨k, rfl⟩ : ∃ m, k = m + 1 := ⟨k - 1, zq17⟩
 rw [culletref07_trusted.j2]
 unfold trustP
 rw [if_neg (show ¬ p < 0 by omega)]
 have hlen := hv.len
 have tp : 0 ≤ (rd_T45 l p).f0 ∧ (rd_T45 l p).f0 ≤ 1000000000 := hv.times p.toNat
 cases hf : (rd_T45 l p).f6
 ·rfl
 ·rw [if_neg (show ¬ (!true) = true by decide), if_neg (show ¬ true = false by decide)]
  by_cases h2 : q < 0
  ·rw [if_pos h2, if_pos h2, wpred _ zq17, if_pos zq17, if_pos zq17, if_pos hp.1, if_pos hp.2]
   have tm : 0 ≤ (rd_T45 l ((l.length : Int) - 1)).f0 ∧ (rd_T45 l ((l.length : Int) - 1)).f0 ≤ 1000000000 := hv.times ((l.length : Int) - 1).toNat
   rw [show wrap64 ((rd_T45 l ((l.length : Int) - 1)).f0 - (rd_T45 l p).f0) = (rd_T45 l ((l.length : Int) - 1)).f0 - (rd_T45 l p).f0 from by unfold wrap64; omega]
   split <;> rfl
  ·rw [if_neg h2, if_neg h2, if_pos zq17, if_pos hq]
   have tq : 0 ≤ (rd_T45 l q).f0 ∧ (rd_T45 l q).f0 ≤ 1000000000 := hv.times q.toNat
   cases hg : (rd_T45 l q).f6
   ·rfl
   ·rw [if_pos rfl, if_neg (show ¬ true = false by decide), if_pos hp.1, if_pos hp.2]
    rw [show wrap64 ((rd_T45 l q).f0 - (rd_T45 l p).f0) = (rd_T45 l q).f0 - (rd_T45 l p).f0 from by unfold wrap64; omega]
    split <;> rfl
theorem rtrust_l0 {every : Int} {fl : List S58} {st : List S56} {l : List S45} (hv : Valid every fl st l) (s c e : Int) : ∀ r i k, i + r = l.length → 2 * r + 2 < k → culletref07_trusted.l0 k l s c e (befN l s c e i) (behN l s c e i) (i : Int) every fl st = some (trustP every l (befN l s c e l.length) (behN l s c e l.length))
 | 0, i, k, h, hk => by
  obtain ⟨k, rfl⟩ : ∃ m, k = m + 1 := ⟨k - 1, zq17⟩
  have hi : i = l.length := by omega
  subst hi
  have h1 := befN_lo l s c e l.length
  have h2 := behN_lo l s c e l.length
  rw [culletref07_trusted.l0, if_neg zq17]
  by_cases hb : befN l s c e l.length < 0
  ·obtain ⟨k, rfl⟩ : ∃ m, k = m + 1 := ⟨k - 1, zq17⟩
   rw [if_pos hb, culletref07_trusted.j2, if_pos rfl]
   unfold trustP
   rw [if_pos hb]
  ·rw [if_neg hb, if_pos zq17, if_pos zq17]
   exact rtrust_j2 hv _ _ ⟨zq17, zq17⟩ zq17 k zq17
 | r + 1, i, k, h, hk => by
  obtain ⟨k, rfl⟩ : ∃ m, k = m + 1 + 1 := ⟨k - 2, zq17⟩
  have ih := rtrust_l0 hv s c e r (i + 1) k zq17 zq17
  have hlen := hv.len
  rw [culletref07_trusted.l0, if_pos zq17, if_pos zq17]
  have hnot : ¬ isCh l s c i → culletref07_trusted.j1 (k + 1) l s c e (befN l s c e i) (behN l s c e i) (i : Int) true every fl st = some (trustP every l (befN l s c e l.length) (behN l s c e l.length)) := fun hn => by
   rw [culletref07_trusted.j1, if_pos rfl, wsucc i zq17]
   rw [show befN l s c e (i + 1) = befN l s c e i from if_neg hn, show behN l s c e (i + 1) = behN l s c e i from if_neg hn] at ih
   exact ih
  by_cases h1 : (rd_T45 l (i : Int)).f1 = 2
  ·rw [if_pos h1]
   by_cases h2 : (rd_T45 l (i : Int)).f4 = s
   ·rw [if_pos h2]
    by_cases h3 : (rd_T45 l (i : Int)).f5 = c
    ·have hc : isCh l s c i := ⟨h1, h2, h3⟩
     have e1 : befN l s c e (i + 1) = if (i : Int) < e then (i : Int) else befN l s c e i := if_pos hc
     have e2 : behN l s c e (i + 1) = if (i : Int) < e then behN l s c e i else if behN l s c e i < 0 then (i : Int) else behN l s c e i := if_pos hc
     rw [e1, e2] at ih
     rw [show ((rd_T45 l (i : Int)).f5 != c) = false from by simp [h3], culletref07_trusted.j1, if_neg zq56, wsucc i zq17]
     by_cases h4 : (i : Int) < e
     ·rw [if_pos h4, if_pos h4] at ih
      rw [if_pos h4]
      exact ih
     ·rw [if_neg h4, if_neg h4] at ih
      rw [if_neg h4]
      by_cases h5 : behN l s c e i < 0
      ·rw [if_pos h5] at ih
       rw [if_pos h5]
       exact ih
      ·rw [if_neg h5] at ih
       rw [if_neg h5]
       exact ih
    ·rw [show ((rd_T45 l (i : Int)).f5 != c) = true from by simp [h3]]
     exact hnot (fun hc => h3 hc.2.2)
   ·rw [if_neg h2]
    exact hnot (fun hc => h2 hc.2.1)
  ·rw [if_neg h1]
   exact hnot (fun hc => h1 hc.1)
theorem rtrust_eq {every : Int} {fl : List S58} {st : List S56} {l : List S45} (hv : Valid every fl st l) (hL : ∀ i, i < st.length → (rd_T56 st (i : Nat)).f1.length ≤ 8) (s c e : Int) (h0 : 0 ≤ s) (h1 : s < st.length) (k : Nat) (hk : 1100 ≤ k) : culletref07_trusted.f k every fl st l s c e = some (trU every st l s c e) := by
 have hl := hL s.toNat zq17
 rw [show ((s.toNat : Nat) : Int) = s from by omega] at hl
 have hlen := hv.len
 unfold culletref07_trusted.f trU trustS
 rw [rclaim_eq every fl st s c h0 h1 hl k zq17, Option.bind_some, clmR_b]
 cases clmB st s c
 ·rfl
 ·rw [if_pos rfl, if_neg zq56, ← (scan l s c e l.length).1, ← (scan l s c e l.length).2]
  exact rtrust_l0 hv s c e l.length 0 k zq17 zq17
theorem Valid.claims {every : Int} {fl : List S58} {st : List S56} {l : List S45} (h : Valid every fl st l) : ∀ i, i < st.length → (rd_T56 st (i : Nat)).f1.length ≤ 8 := fun i hi => by
 have hs := h.se i hi
 unfold standErr at hs
 split at hs
 ·exact absurd hs zq56
 ·split at hs
  ·exact absurd hs zq56
  ·unfold claimsS at hs
   split at hs
   ·exact absurd hs zq56
   ·omega
theorem rhow_l0 {every : Int} {fl : List S58} {st : List S56} {l : List S45} (hv : Valid every fl st l) (c e t : Int) : ∀ r i k, i + r = st.length → r + 1100 < k → culletref07_how.l0 k l c e t (howN every st l c e t i) (i : Int) every fl st = some (howN every st l c e t st.length)
 | 0, i, k, h, hk => by
  obtain ⟨k, rfl⟩ : ∃ m, k = m + 1 := ⟨k - 1, zq17⟩
  have hi : i = st.length := by omega
  subst hi
  rw [culletref07_how.l0, if_neg zq17]
 | r + 1, i, k, h, hk => by
  obtain ⟨k, rfl⟩ : ∃ m, k = m + 1 := ⟨k - 1, zq17⟩
  have ih := rhow_l0 hv c e t r (i + 1) k zq17 zq17
  have hn2 := hv.n2
  have hb := howN_le every st l c e t i
  rw [culletref07_how.l0, if_pos zq17, rtrust_eq hv hv.claims (i : Int) c e zq17 zq17 k zq17, Option.bind_some, wsucc i zq17]
  have hs : howN every st l c e t (i + 1) = if trU every st l (i : Int) c e = t then howN every st l c e t i + 1 else howN every st l c e t i := rfl
  rw [hs] at ih
  by_cases ht : trU every st l (i : Int) c e = t
  ·rw [if_pos ht] at ih
   rw [if_pos ht, show wrap64 (howN every st l c e t i + 1) = howN every st l c e t i + 1 from by unfold wrap64; omega]
   exact ih
  ·rw [if_neg ht] at ih
   rw [if_neg ht]
   exact ih
theorem rhow_eq {every : Int} {fl : List S58} {st : List S56} {l : List S45} (hv : Valid every fl st l) (c e t : Int) (k : Nat) (hk : 1200 ≤ k) : culletref07_how.f k every fl st l c e t = some (howN every st l c e t st.length) := by
 have := hv.n2
 exact rhow_l0 hv c e t st.length 0 k zq17 zq17
def wvO (x : Int) : Int × Int := if x ≥ 0 then (0, x) else (2, -1)
theorem rjudge_l0 {every : Int} {fl : List S58} {st : List S56} {l : List S45} (hv : Valid every fl st l) (e : Int) : ∀ r i k (x : Int), i + r = fl.length → r + 1300 < k → culletref07_judge.l0 k l e x (i : Int) every fl st = some (judgeL every st l e (fl.drop i) i (wvO x))
 | 0, i, k, x, h, hk => by
  obtain ⟨k, rfl⟩ : ∃ m, k = m + 1 := ⟨k - 1, zq17⟩
  have hi : i = fl.length := by omega
  subst hi
  rw [culletref07_judge.l0, if_neg zq17, List.drop_length]
  unfold judgeL wvO
  split <;> rfl
 | r + 1, i, k, x, h, hk => by
  obtain ⟨k, rfl⟩ : ∃ m, k = m + 1 := ⟨k - 1, zq17⟩
  have hn1 := hv.n1
  have hn2 := hv.n2
  have hb1 := howN_le every st l (i : Int) e 1 st.length
  have hb0 := howN_le every st l (i : Int) e 0 st.length
  have hdrop : fl.drop i = rd_T58 fl (i : Int) :: fl.drop (i + 1) := by
   rw [List.drop_eq_getElem_cons zq17]
   simp [rd_T58, List.getD_eq_getElem?_getD, List.getElem?_eq_getElem (show i < fl.length by omega)]
  have ih := fun x => rjudge_l0 hv e r (i + 1) k x zq17 zq17
  rw [hdrop, culletref07_judge.l0, if_pos zq17, rhow_eq hv (i : Int) e 1 k zq17, rhow_eq hv (i : Int) e 0 k zq17]
  simp only [Option.bind_some]
  rw [if_pos zq17, wsucc i zq17, show wrap64 (howN every st l (i : Int) e 1 st.length + howN every st l (i : Int) e 0 st.length) = howN every st l (i : Int) e 1 st.length + howN every st l (i : Int) e 0 st.length from by unfold wrap64; omega]
  rw [judgeL]
  by_cases h1 : howN every st l (i : Int) e 1 st.length + howN every st l (i : Int) e 0 st.length < (rd_T58 fl (i : Int)).f1
  ·rw [if_pos h1, if_pos h1]
  ·rw [if_neg h1, if_neg h1]
   by_cases h2 : howN every st l (i : Int) e 1 st.length < (rd_T58 fl (i : Int)).f1
   ·rw [if_pos h2]
    by_cases h3 : x < 0
    ·rw [if_pos h3, ih, if_pos ⟨by unfold wvO; rw [if_neg zq17], h2⟩]
     rw [show wvO (i : Int) = (0, (i : Int)) from if_pos zq17]
    ·rw [if_neg h3, ih, if_neg (fun hh => by have := hh.1; unfold wvO at this; rw [if_pos zq17] at this; exact absurd (show (0 : Int) = 2 from this) zq56)]
   ·rw [if_neg h2, ih, if_neg (fun hh => h2 hh.2)]
theorem rjudge_eq {every : Int} {fl : List S58} {st : List S56} {l : List S45} (hv : Valid every fl st l) (e : Int) (h0 : 0 ≤ e) (h1 : e < l.length) (k : Nat) (hk : 1400 ≤ k) : culletref07_judge.f k every fl st l e = some (judgeS every fl st l e) := by
 have := hv.n1
 unfold culletref07_judge.f judgeS
 rw [if_pos h0, if_pos h1]
 by_cases hf : (rd_T45 l e).f6 = true
 ·rw [if_pos hf, if_pos hf]
 ·rw [if_neg hf, if_neg hf]
  exact rjudge_l0 hv e fl.length 0 k (-1) zq17 zq17
theorem rof_l0 {every : Int} {fl : List S58} {st : List S56} {l : List S45} (hv : Valid every fl st l) (v : Int) (hv1 : v ≠ 1) : ∀ r i k, i + r = l.length → r + 1500 < k → culletref07_of.l0 k l v (posP every fl st l v i) (i : Int) every fl st = some (posP every fl st l v l.length)
 | 0, i, k, h, hk => by
  obtain ⟨k, rfl⟩ : ∃ m, k = m + 1 := ⟨k - 1, zq17⟩
  have hi : i = l.length := by omega
  subst hi
  rw [culletref07_of.l0, if_neg zq17]
 | r + 1, i, k, h, hk => by
  obtain ⟨k, rfl⟩ : ∃ m, k = m + 1 := ⟨k - 1, zq17⟩
  have ih := rof_l0 hv v hv1 r (i + 1) k zq17 zq17
  have hlen := hv.len
  have hp := posP_len every fl st l v i
  have hs : posP every fl st l v (i + 1) = if vdS every fl st l i = v then posP every fl st l v i ++ [(i : Int)] else posP every fl st l v i := rfl
  have hd : vdS every fl st l i = if (rd_T45 l i).f1 = 1 then (judgeS every fl st l i).1 else 1 := rfl
  rw [culletref07_of.l0, if_pos zq17, if_pos zq17, wsucc i zq17]
  by_cases hk1 : (rd_T45 l i).f1 = 1
  ·rw [if_pos hk1] at hd
   rw [if_pos hk1, rjudge_eq hv i zq17 zq17 k zq17, Option.bind_some, ← hd]
   by_cases hx : vdS every fl st l i = v
   ·rw [if_pos hx] at hs
    rw [if_pos hx, if_pos zq17, ← hs]
    exact ih
   ·rw [if_neg hx] at hs
    rw [if_neg hx, ← hs]
    exact ih
  ·rw [if_neg hk1] at hd
   rw [if_neg (show ¬ vdS every fl st l i = v from fun e => hv1 (by rw [← e, hd]))] at hs
   rw [if_neg hk1, ← hs]
   exact ih
theorem rof_eq {every : Int} {fl : List S58} {st : List S56} {l : List S45} (hv : Valid every fl st l) (v : Int) (hv1 : v ≠ 1) (k : Nat) (hk : 2100 ≤ k) : culletref07_of.f k every fl st l v = some (posP every fl st l v l.length) := by
 have := hv.len
 exact rof_l0 hv v hv1 l.length 0 k zq17 zq17
theorem rBlocked_eq (a0 : Int) (fl : List S58) (st : List S56) (l : List S45) (k : Nat) (hk : 2100 ≤ k) : culletref07_Blocked.f k a0 fl st l = some (blockedF a0 fl st l) := by
 unfold culletref07_Blocked.f blockedF
 rw [rLog_eq a0 fl st l k zq17, Option.bind_some]
 by_cases h0 : logS a0 fl st l = 0
 ·rw [if_pos h0, if_neg (fun h => h h0), rof_eq (logS_valid h0) 3 zq56 k hk, Option.bind_some]
 ·rw [if_neg h0, if_pos h0]
theorem ints_l0 (L : List Int) (hL : L.length ≤ 1000) : ∀ r i k, i + r = L.length → r < k → culletlaw07_ints.l0 k L L (i : Int) = some true
 | 0, i, k, h, hk => by
  obtain ⟨k, rfl⟩ : ∃ m, k = m + 1 := ⟨k - 1, zq17⟩
  rw [culletlaw07_ints.l0, if_neg zq17]
 | r + 1, i, k, h, hk => by
  obtain ⟨k, rfl⟩ : ∃ m, k = m + 1 := ⟨k - 1, zq17⟩
  rw [culletlaw07_ints.l0, if_pos zq17, if_pos zq17, if_pos zq17, if_pos rfl, wsucc i zq17]
  exact ints_l0 L hL r (i + 1) k zq17 zq17
theorem ints_self (L : List Int) (hL : L.length ≤ 1000) (k : Nat) (hk : 1001 ≤ k) : culletlaw07_ints.f k L L = some true := by
 unfold culletlaw07_ints.f
 rw [if_pos rfl]
 exact ints_l0 L hL L.length 0 k zq17 zq17
end Go.Proofs.Ytbpebehbfpgjbaa.P
end
section
namespace Go.Proofs.Ytbpebehbfpgjbaa.P
open Go.RowKit Go.Proofs.YtbpebehbfpgjbaaW.PrintWords Go.Proofs.YtbpebehbfpgjbaaW.PrintLast Go.Proofs.YtbpebehbfpgjbaaW.PrintMore
attribute [local go_sem] max2_int min2_int max_two min_two max_three min_three max_four min_four
set_option linter.unusedVariables false
set_option linter.unusedSimpArgs false
def culletref04_Less.f (k : Nat) (a0_0 : Int) (a0_1 : Int) (a1_0 : Int) (a1_1 : Int) : Option (Bool) := (culletref04_Order.f k a0_0 a0_1 a1_0 a1_1).bind fun t191 => (some (decide (t191 < 0)))
set_option maxHeartbeats 8000000 in
set_option maxRecDepth 100000 in
theorem culletref04_Less.calls (k : Nat) (a0_0 : Int) (a0_1 : Int) (a1_0 : Int) (a1_1 : Int) (r : Bool) (w : World) (h : culletref04_Less.f k a0_0 a0_1 a1_0 a1_1 = some r) :
  Calls Try.prog 29 #[.agg #[.int .i64 a0_0, .int .i64 a0_1], .agg #[.int .i64 a1_0, .int .i64 a1_1]] w fun e w' => e = .returned (.bool r) ∧ Below w.heap.size w w' := by
 have hu35 := Try.underlying35
 have HB := Aside0.mk (Below.refl w.heap.size w)
 have H : ((culletref04_Order.f k a0_0 a0_1 a1_0 a1_1).bind fun t191 => (some (decide (t191 < 0)))) = some r := h
 clear h
 replace H := Option.bind_eq_some_iff.mp H
 obtain ⟨t191, A30, H⟩ := H
 replace H : (some (decide (t191 < 0))) = some r := H
 have A3 := Aside0.mk A30
 clear A30
 obtain rfl := Option.some.inj H
 go_enter Try.func29, Try.ntmps29
 go_wp2_with (first | ((with_reducible refine gate_dst (N := 2) rfl ?_); refine box_event ?hg (N := 2) ?hd (cs := #[.int .i64 a0_0, .int .i64 a0_1]) (t := 35) ?hr ?_; (case hd => rfl); (case hg => rfl); (case hr => exact zq11); intro gb189 hg w4 hbox hb; have n_ := as4 (below_step zq3 hb) (hbox) ((zq31 : w.heap.size ≤ gb189)) ((zq31 : w.heap.size ≤ gb189)); clear HB hb hbox hg; obtain ⟨HB, BK189, GW189, GE189⟩ := n_) | ((with_reducible refine gate_dst (N := 3) rfl ?_); refine box_event ?hg (N := 3) ?hd (cs := #[.int .i64 a1_0, .int .i64 a1_1]) (t := 35) ?hr ?_; (case hd => rfl); (case hg => rfl); (case hr => exact zq11); intro gb190 hg w5 hbox hb; have n_ := as7 (blk_below (zq0 BK189.out) hb) (below_step zq99 hb) (hbox) ((by rw [hg]; exact (below_size zq99) : w.heap.size ≤ gb190)) ((by rw [hg]; exact (below_size zq99) : w.heap.size ≤ gb190)) ((by rw [hg]; exact Nat.ne_of_lt (blk_lt (zq0 BK189.out)) : gb189 ≠ gb190)) ((by rw [hg]; exact Nat.ne_of_gt (blk_lt (zq0 BK189.out)) : gb190 ≠ gb189)); clear BK189 HB hb hbox hg; obtain ⟨BK189, HB, BK190, GW190, GE190, NB189_190, NB190_189⟩ := n_; have hnb6 := NB189_190.out; have hnc6 := NB190_189.out; obtain ⟨hcz7_0, hcz7_1, hfz7_0, hfz7_1⟩ := bcs2 BK189.out; obtain ⟨hcz8_0, hcz8_1, hfz8_0, hfz8_1⟩ := bcs2 BK190.out) | ((with_reducible refine gate_callee (f := 60) rfl ?_); refine goesL_ (some 7) rfl rfl Try.func60 zq22 rfl #[.agg #[.int .i64 a0_0, .int .i64 a0_1], .agg #[.int .i64 a1_0, .int .i64 a1_1]] rfl zq4 ?_; (with_reducible refine (culletref04_Order.calls k a0_0 a0_1 a1_0 a1_1 t191 _ A3.out).mono ?_); rintro e w9 ⟨rfl, hb⟩; refine ⟨_, rfl, ?_⟩; have n_ := as3 (blk_below (zq0 BK189.out) hb) (blk_below (zq0 BK190.out) hb) (below_step zq120 hb); clear BK189 BK190 HB; obtain ⟨BK189, BK190, HB⟩ := n_; (try clear hb); (try clear hb2); (try clear hk); (try clear hi)))
 go_ret
 exact ⟨zq9, zq120⟩
mutual
def culletref07_Missed.j0 : Nat → List (S45) → Int → Int → Bool → Int → List (S58) → List (S56) → Option (Int × Int × Int × Int)
 | 0, _, _, _, _, _, _, _ => none
 | k + 1, x1, x2, x9, x34, x193000, x193001, x193002 => if x34 = true then (culletref07_Missed.j1 k x1 x2 7 x193000 x193001 x193002) else (culletref07_Missed.j1 k x1 x2 x9 x193000 x193001 x193002)
def culletref07_Missed.j1 : Nat → List (S45) → Int → Int → Int → List (S58) → List (S56) → Option (Int × Int × Int × Int)
 | 0, _, _, _, _, _, _ => none
 | k + 1, x1, x2, x9, x193000, x193001, x193002 => if x9 = 0 then ((culletref07_of.f k x193000 x193001 x193002 x1 2).bind fun t196 => (culletref07_Missed.l0 k x1 x2 t196 0 x193000 x193001 x193002 0 1)) else (some (0, 0, 0, x9))
def culletref07_Missed.l0 : Nat → List (S45) → Int → List Int → Int → Int → List (S58) → List (S56) → Int → Int → Option (Int × Int × Int × Int)
 | 0, _, _, _, _, _, _, _, _, _ => none
 | k + 1, x1, x2, x11, x12, x193000, x193001, x193002, x196000, x196001 => if x12 < (x11.length : Int) then (culletref07_Missed.l1 k x1 x2 x11 x12 1 1 0 x193000 x193001 x193002 x196000 x196001) else (some (x196000, x196001, (x11.length : Int), 0))
def culletref07_Missed.l1 : Nat → List (S45) → Int → List Int → Int → Int → Int → Int → Int → List (S58) → List (S56) → Int → Int → Option (Int × Int × Int × Int)
 | 0, _, _, _, _, _, _, _, _, _, _, _, _ => none
 | k + 1, x1, x2, x11, x12, x13, x14, x15, x193000, x193001, x193002, x196000, x196001 => if x15 < (x193002.length : Int) then (if 0 ≤ x12 then (if x12 < (x11.length : Int) then ((culletref07_trusted.f k x193000 x193001 x193002 x1 x15 x2 (rd x11 x12)).bind fun t200 => (if t200 = 1 then ((culletref07_claim.f k x193000 x193001 x193002 x15 x2).bind fun bt201 => (culletref07_Missed.l1 k x1 x2 x11 x12 (wrap64 (x13 * bt201.2.1)) (wrap64 (x14 * bt201.2.2.1)) (wrap64 (x15 + 1)) x193000 x193001 x193002 x196000 x196001)) else (culletref07_Missed.l1 k x1 x2 x11 x12 x13 x14 (wrap64 (x15 + 1)) x193000 x193001 x193002 x196000 x196001))) else (none)) else (none)) else ((culletref04_Made.f k x13 x14).bind fun bt206 => ((culletref04_Less.f k x196000 x196001 bt206.1 bt206.2).bind fun t209 => (if t209 = true then (culletref07_Missed.l0 k x1 x2 x11 (wrap64 (x12 + 1)) x193000 x193001 x193002 bt206.1 bt206.2) else (culletref07_Missed.l0 k x1 x2 x11 (wrap64 (x12 + 1)) x193000 x193001 x193002 x196000 x196001))))
end
def culletref07_Missed.f (k : Nat) (a0_0 : Int) (l0_1 : List (S58)) (l0_2 : List (S56)) (l1 : List (S45)) (a2 : Int) : Option (Int × Int × Int × Int) := (culletref07_CheckLog.f k a0_0 l0_1 l0_2 l1).bind fun t194 => (if t194 = 0 then (if a2 < 0 then (culletref07_Missed.j0 k l1 a2 t194 true a0_0 l0_1 l0_2) else (culletref07_Missed.j0 k l1 a2 t194 (decide (a2 ≥ (l0_1.length : Int))) a0_0 l0_1 l0_2)) else (culletref07_Missed.j0 k l1 a2 t194 false a0_0 l0_1 l0_2))
def culletref07_Missed.T15 : Bool × List (List Nat × List Nat) := (true, [([], []), ([], []), ([], []), ([], []), ([], []), ([], []), ([4, 5], [4, 5]), ([6], [6]), ([0, 1, 2, 3, 7], [0, 1, 2, 3, 7]), ([8], [8])])
def culletref07_Missed.B15 : List Nat := [0, 0, 0, 0, 0, 0, 48, 112, 255, 511]
theorem culletref07_Missed.tab15 : rtab .any (opsOf Try.f16 15) = culletref07_Missed.T15 := by kernel_rfl
theorem culletref07_Missed.bits15 : waitsOk culletref07_Missed.T15.2 culletref07_Missed.B15 = true := by kernel_rfl
set_option maxHeartbeats 8000000 in
set_option maxRecDepth 100000 in
theorem culletref07_Missed.calls (k : Nat) (a0_0 : Int) (A0_1 : Option Addr) (c0_1 : Nat) (l0_1 : List (S58)) (A0_2 : Option Addr) (c0_2 : Nat) (l0_2 : List (S56)) (A1 : Option Addr) (c1 : Nat) (l1 : List (S45)) (a2 : Int) (r1 : Int) (r2 : Int) (r3 : Int) (r4 : Int) (w : World) (hr0_1 : Kd.C k58 w A0_1 l0_1.length l0_1) (hc0_1 : l0_1.length ≤ c0_1) (hr0_2 : Kd.C k56 w A0_2 l0_2.length l0_2) (hc0_2 : l0_2.length ≤ c0_2) (hr1 : Kd.C k45 w A1 l1.length l1) (hc1 : l1.length ≤ c1) (h : culletref07_Missed.f k a0_0 l0_1 l0_2 l1 a2 = some (r1, r2, r3, r4)) :
  Calls Try.prog 16 #[.agg #[.int .i64 a0_0, .slice A0_1 l0_1.length c0_1, .slice A0_2 l0_2.length c0_2], .slice A1 l1.length c1, .int .i64 a2] w fun e w' => e = .returned (.tuple #[.agg #[.int .i64 r1, .int .i64 r2], .int .i64 r3, .int .i64 r4]) ∧ Below w.heap.size w w' := by
 have hu25 := Try.underlying25
 have hu35 := Try.underlying35
 have hu68 := Try.underlying68
 have HR0_1 := Aside0.mk hr0_1
 have HC0_1 := Aside0.mk hc0_1
 clear hr0_1 hc0_1
 have HR0_2 := Aside0.mk hr0_2
 have HC0_2 := Aside0.mk hc0_2
 clear hr0_2 hc0_2
 have HR1 := Aside0.mk hr1
 have HC1 := Aside0.mk hc1
 clear hr1 hc1
 have HB := Aside0.mk (Below.refl w.heap.size w)
 have H : ((culletref07_CheckLog.f k a0_0 l0_1 l0_2 l1).bind fun t194 => (if t194 = 0 then (if a2 < 0 then (culletref07_Missed.j0 k l1 a2 t194 true a0_0 l0_1 l0_2) else (culletref07_Missed.j0 k l1 a2 t194 (decide (a2 ≥ (l0_1.length : Int))) a0_0 l0_1 l0_2)) else (culletref07_Missed.j0 k l1 a2 t194 false a0_0 l0_1 l0_2))) = some (r1, r2, r3, r4) := h
 clear h
 replace H := Option.bind_eq_some_iff.mp H
 obtain ⟨t194, A40, H⟩ := H
 replace H : (if t194 = 0 then (if a2 < 0 then (culletref07_Missed.j0 k l1 a2 t194 true a0_0 l0_1 l0_2) else (culletref07_Missed.j0 k l1 a2 t194 (decide (a2 ≥ (l0_1.length : Int))) a0_0 l0_1 l0_2)) else (culletref07_Missed.j0 k l1 a2 t194 false a0_0 l0_1 l0_2)) = some (r1, r2, r3, r4) := H
 have A4 := Aside0.mk A40
 clear A40
 have HC5 := Aside0.mk H
 clear H
 go_enter Try.func16, Try.ntmps16
 go_upto_region 2 with (first | ((with_reducible refine gate_dst (N := 3) rfl ?_); (try (refine gate_guard zq58 ?_; dsimp only)); refine box_event ?hg (N := 3) ?hd (cs := #[.int .i64 a0_0, .slice A0_1 l0_1.length c0_1, .slice A0_2 l0_2.length c0_2]) (t := 25) ?hr ?_; (case hd => rfl); (case hg => rfl); (case hr => exact zq11); intro gb192 hg w6 hbox hb; have n_ := as4 (below_step zq3 hb) (hbox) ((zq31 : w.heap.size ≤ gb192)) ((zq31 : w.heap.size ≤ gb192)); clear HB hb hbox hg; obtain ⟨HB, BK192, GW192, GE192⟩ := n_) | ((with_reducible refine gate_dst (N := 6) rfl ?_); (try (refine gate_guard zq58 ?_; dsimp only)); refine box_event ?hg (N := 6) ?hd (cs := #[.int .i64 0, .int .i64 0]) (t := 35) ?hr ?_; (case hd => rfl); (case hg => rfl); (case hr => exact zq11); intro gb193 hg w7 hbox hb; have n_ := as7 (blk_below (zq0 BK192.out) hb) (below_step zq100 hb) (hbox) ((by rw [hg]; exact (below_size zq100) : w.heap.size ≤ gb193)) ((by rw [hg]; exact (below_size zq100) : w.heap.size ≤ gb193)) ((zq118 : gb192 ≠ gb193)) ((zq119 : gb193 ≠ gb192)); clear BK192 HB hb hbox hg; obtain ⟨BK192, HB, BK193, GW193, GE193, NB192_193, NB193_192⟩ := n_; have hnb8 := NB192_193.out; have hnc8 := NB193_192.out; obtain ⟨hcz9_0, hcz9_1, hcz9_2, hfz9_0, hfz9_1, hfz9_2⟩ := bcs3 BK192.out) | ((with_reducible refine gate_callee (f := 34) rfl ?_); refine goesL_ (some 21) rfl rfl Try.func34 zq22 rfl #[.agg #[.int .i64 a0_0, .slice A0_1 l0_1.length c0_1, .slice A0_2 l0_2.length c0_2], .slice A1 l1.length c1] rfl zq4 ?_; (with_reducible refine (culletref07_CheckLog.calls k a0_0 _ _ l0_1 _ _ l0_2 _ _ l1 t194 _ ?side1 ?side2 ?side3 ?side4 ?side5 ?side6 A4.out).mono ?_); (case side1 => exact zq5); (case side2 => exact HC0_1.out); (case side3 => exact zq6); (case side4 => exact HC0_2.out); (case side5 => exact zq12); (case side6 => exact HC1.out); rintro e w10 ⟨rfl, hb⟩; refine ⟨_, rfl, ?_⟩; have n_ := as3 (blk_below (zq0 BK192.out) hb) (blk_below (zq0 BK193.out) hb) (below_step zq44 hb); clear BK192 BK193 HB; obtain ⟨BK192, BK193, HB⟩ := n_; (try clear hb); (try clear hb2); (try clear hk); (try clear hi)))
 (try simp only [Act.put, List.setIfInBounds_toArray, List.set_cons_zero, List.set_cons_succ])
 go_cut [34] (fun v34 wc => ∃ (kq : Nat) (x34_4 : Bool), v34 = .bool x34_4 ∧ Aside0 (culletref07_Missed.j0 kq l1 a2 t194 x34_4 a0_0 l0_1 l0_2 = some (r1, r2, r3, r4)) ∧ Aside0 (kq ≤ k) ∧ Aside0 (wc.heap[gb192]? = some (.cells #[.int .i64 a0_0, (.slice A0_1 l0_1.length c0_1), (.slice A0_2 l0_2.length c0_2)] 25 (0, 0))) ∧ Aside0 (wc.heap[gb193]? = some (.cells #[.int .i64 0, .int .i64 0] 35 (0, 0))) ∧ Aside0 (Below w.heap.size w wc))
 case first =>
  have H := HC5.out
  clear HC5
  by_cases c11 : t194 = 0
  ·rw [if_pos c11] at H
   have c11b0 : (t194 == 0) = true := beq_iff_eq.mpr c11
   have c11b1 : (t194 != 0) = false := bne_eq_false_iff_eq.mpr c11
   clear c11
   (first | rw [c11b0] | (simp only [i64_w, i32_w]; rw [c11b0]) | skip)
   by_cases c12 : a2 < 0
   ·rw [if_pos c12] at H
    have c12b0 : decide (a2 < 0) = true := decide_eq_true c12
    clear c12
    have H' := Aside0.mk H
    clear H
    go_wp2
    go_meet
    case rel => exact ⟨_, (true), zq10, H', ⟨zq50⟩, ⟨(zq0 BK192.out)⟩, ⟨(zq0 BK193.out)⟩, ⟨zq44⟩⟩
   ·rw [if_neg c12] at H
    have c12b0 : decide (a2 < 0) = false := decide_eq_false c12
    clear c12
    have H' := Aside0.mk H
    clear H
    have hnb13 := NB192_193.out
    have hnc13 := NB193_192.out
    obtain ⟨hcz14_0, hcz14_1, hcz14_2, hfz14_0, hfz14_1, hfz14_2⟩ := bcs3 BK192.out
    go_wp2
    go_meet
    case rel => exact ⟨_, (decide (a2 ≥ (l0_1.length : Int))), zq10, H', ⟨zq50⟩, ⟨(zq0 BK192.out)⟩, ⟨(zq0 BK193.out)⟩, ⟨zq44⟩⟩
  ·rw [if_neg c11] at H
   have c11b0 : (t194 == 0) = false := beq_eq_false_iff_ne.mpr c11
   have c11b1 : (t194 != 0) = true := bne_iff_ne.mpr c11
   (first | rw [c11b0] | (simp only [i64_w, i32_w]; rw [c11b0]) | skip)
   have H' := Aside0.mk H
   clear H
   go_wp2
   go_meet
   case rel => exact ⟨_, (false), zq10, H', ⟨zq50⟩, ⟨(zq0 BK192.out)⟩, ⟨(zq0 BK193.out)⟩, ⟨zq44⟩⟩
 case rest =>
  clear HC5
  try clear c1
  try clear p2
  try clear c3
  try clear c8
  try clear c11
  try clear c11b0
  try clear c11b1
  try clear c12
  try clear c12b0
  try clear c13
  try clear hcz14_0 hcz14_1 hcz14_2 hfz14_0 hfz14_1 hfz14_2
  try clear hcz9_0 hcz9_1 hcz9_2 hfz9_0 hfz9_1 hfz9_2
  obtain ⟨kq, x34_4, rfl, HA, HJ4, BK192, BK193, HB⟩ := hcut
  cases kq with
  | zero => exact absurd HA.out (by simp [culletref07_Missed.j0])
  | succ kj4 =>
   have H := HA.out
   clear HA
   simp only [culletref07_Missed.j0] at H
   have HC15 := Aside0.mk H
   clear H
   go_upto_if 34 with (fail)
   go_cut [9] (fun v9 wc => ∃ (kq : Nat) (x9_14 : Int), v9 = .int .i64 x9_14 ∧ Aside0 (culletref07_Missed.j1 kq l1 a2 x9_14 a0_0 l0_1 l0_2 = some (r1, r2, r3, r4)) ∧ Aside0 (kq ≤ kj4) ∧ Aside0 (wc.heap[gb192]? = some (.cells #[.int .i64 a0_0, (.slice A0_1 l0_1.length c0_1), (.slice A0_2 l0_2.length c0_2)] 25 (0, 0))) ∧ Aside0 (wc.heap[gb193]? = some (.cells #[.int .i64 0, .int .i64 0] 35 (0, 0))) ∧ Aside0 (Below w.heap.size w wc))
   case first =>
    have H := HC15.out
    clear HC15
    by_cases c16 : x34_4 = true
    ·subst c16
     have H1 : (culletref07_Missed.j1 kj4 l1 a2 7 a0_0 l0_1 l0_2) = some (r1, r2, r3, r4) := by rw [if_pos rfl] at H; exact H
     clear H
     have H := H1
     clear H1
     have H' := Aside0.mk H
     clear H
     go_wp2
     go_meet
     case rel => exact ⟨_, (7), zq10, H', ⟨by have := HJ4.out; first | omega | exact Nat.le_refl _⟩, ⟨(zq0 BK192.out)⟩, ⟨(zq0 BK193.out)⟩, ⟨zq44⟩⟩
    ·replace c16 := Bool.eq_false_iff.mpr c16
     subst c16
     have H1 : (culletref07_Missed.j1 kj4 l1 a2 t194 a0_0 l0_1 l0_2) = some (r1, r2, r3, r4) := by rw [if_neg (show ¬ (false = true) by decide)] at H; exact H
     clear H
     have H := H1
     clear H1
     have H' := Aside0.mk H
     clear H
     go_wp2
     go_meet
     case rel => exact ⟨_, (t194), zq10, H', ⟨by have := HJ4.out; first | omega | exact Nat.le_refl _⟩, ⟨(zq0 BK192.out)⟩, ⟨(zq0 BK193.out)⟩, ⟨zq44⟩⟩
   case rest =>
    clear HC15
    try clear c1
    try clear p2 p2
    try clear c3
    try clear c8
    try clear c11
    try clear c11b0
    try clear c11b1
    try clear c12
    try clear c12b0
    try clear c13
    try clear c16
    try clear hcz14_0 hcz14_1 hcz14_2 hfz14_0 hfz14_1 hfz14_2
    try clear hcz9_0 hcz9_1 hcz9_2 hfz9_0 hfz9_1 hfz9_2
    obtain ⟨kq, x9_14, rfl, HA, HJ14, BK192, BK193, HB⟩ := hcut
    cases kq with
    | zero => exact absurd HA.out (by simp [culletref07_Missed.j1])
    | succ kj14 =>
     have H := HA.out
     clear HA
     simp only [culletref07_Missed.j1] at H
     by_cases c17 : x9_14 = 0
     ·rw [if_pos c17] at H
      have c17b0 : (x9_14 == 0) = true := beq_iff_eq.mpr c17
      have c17b1 : (x9_14 != 0) = false := bne_eq_false_iff_eq.mpr c17
      clear c17
      replace H := Option.bind_eq_some_iff.mp H
      obtain ⟨t196, A180, H⟩ := H
      replace H : (culletref07_Missed.l0 kj14 l1 a2 t196 0 a0_0 l0_1 l0_2 0 1) = some (r1, r2, r3, r4) := H
      have A18 := Aside0.mk A180
      clear A180
      have H' := Aside0.mk H
      clear H
      go_wp2_with (first | ((with_reducible refine gate_dst (N := 10) rfl ?_); (try (refine gate_guard zq58 ?_; dsimp only)); refine box_event ?hg (N := 10) ?hd (cs := #[.int .i64 0, .int .i64 0]) (t := 35) ?hr ?_; (case hd => rfl); (case hg => rfl); (case hr => exact zq11); intro gb195 hg w19 hbox hb; have n_ := as10 (blk_below (zq0 BK192.out) hb) (blk_below (zq0 BK193.out) hb) (below_step zq44 hb) (hbox) ((by rw [hg]; exact (below_size zq44) : w.heap.size ≤ gb195)) ((by rw [hg]; exact (below_size zq44) : w.heap.size ≤ gb195)) ((zq118 : gb192 ≠ gb195)) ((zq119 : gb195 ≠ gb192)) ((zq141 : gb193 ≠ gb195)) ((zq142 : gb195 ≠ gb193)); clear BK192 BK193 HB hb hbox hg; obtain ⟨BK192, BK193, HB, BK195, GW195, GE195, NB192_195, NB195_192, NB193_195, NB195_193⟩ := n_; have hnb20 := NB195_192.out; have hnc20 := NB192_195.out; have hnb21 := NB195_193.out; have hnc21 := NB193_195.out; obtain ⟨hcz22_0, hcz22_1, hfz22_0, hfz22_1⟩ := bcs2 BK195.out; have hnb23 := NB192_193.out; have hnc23 := NB193_192.out; obtain ⟨hcz24_0, hcz24_1, hcz24_2, hfz24_0, hfz24_1, hfz24_2⟩ := bcs3 BK192.out) | ((with_reducible refine gate_callee (f := 35) rfl ?_); refine goesL_ (some 42) rfl rfl Try.func35 zq22 rfl #[.agg #[.int .i64 a0_0, .slice A0_1 l0_1.length c0_1, .slice A0_2 l0_2.length c0_2], .slice A1 l1.length c1, .int .u8 2] rfl zq4 ?_; (with_reducible refine (culletref07_of.calls kj14 a0_0 _ _ l0_1 _ _ l0_2 _ _ l1 2 t196 _ ?side1 ?side2 ?side3 ?side4 ?side5 ?side6 A18.out).mono ?_); (case side1 => exact Kd.C_below HR0_1.out zq15); (case side2 => exact HC0_1.out); (case side3 => exact Kd.C_below HR0_2.out zq15); (case side4 => exact HC0_2.out); (case side5 => exact Kd.C_below HR1.out zq15); (case side6 => exact HC1.out); rintro e w25 ⟨v197, rfl, ho0, hb⟩; refine ⟨_, rfl, ?_⟩; have n_ := as5 (Kd.R_lower ho0 (below_size zq15)) (blk_below (g := gb192) (o := .cells #[.int .i64 a0_0, .slice A0_1 l0_1.length c0_1, .slice A0_2 l0_2.length c0_2] 25 (0, 0)) (bch1 NB192_195.out BK192.out) hb) (blk_below (g := gb193) (o := .cells #[.int .i64 0, .int .i64 0] 35 (0, 0)) (bch1 NB193_195.out BK193.out) hb) (blk_below (g := gb195) (o := .cells #[.int .i64 0, .int .i64 1] 35 (0, 0)) (bch0p BK195.out) hb) (below_step zq15 hb); clear BK192 BK193 BK195 HB; obtain ⟨HO198, BK192, BK193, BK195, HB⟩ := n_; (try clear hb); (try clear hb2); (try clear hk); (try clear hi); (try clear ho0)))
      go_loopg [12] kj14 (fun kq v12 w' => ∃ (x12_3 : Int) (x196000_3 : Int) (x196001_3 : Int), v12 = .int .i64 x12_3 ∧ Aside0 (culletref07_Missed.l0 kq l1 a2 t196 x12_3 a0_0 l0_1 l0_2 x196000_3 x196001_3 = some (r1, r2, r3, r4)) ∧ Aside0 (kq ≤ kj14) ∧ Aside0 (Kd.R (Kd.int .i64) 3 w' w.heap.size (fun _ => True) v197 t196) ∧ Aside0 (w'.heap[gb192]? = some (.cells #[.int .i64 a0_0, (.slice A0_1 l0_1.length c0_1), (.slice A0_2 l0_2.length c0_2)] 25 (0, 0))) ∧ Aside0 (w'.heap[gb193]? = some (.cells #[.int .i64 0, .int .i64 0] 35 (0, 0))) ∧ Aside0 (w'.heap[gb195]? = some (.cells #[.int .i64 x196000_3, .int .i64 x196001_3] 35 (0, 0))) ∧ Aside0 (Below w.heap.size w w'))
      case atStart => exact ⟨(0), (0), (1), zq10, H', ⟨Nat.le_refl _⟩, ⟨(zq1 HO198.out)⟩, ⟨(zq0 BK192.out)⟩, ⟨(zq0 BK193.out)⟩, ⟨(zq0 BK195.out)⟩, ⟨zq15⟩⟩
      case round =>
       clear H'
       try clear c1
       try clear c2
       try clear p2 p2
       try clear c3
       try clear c8
       try clear c11
       try clear c11b0
       try clear c11b1
       try clear c12
       try clear c12b0
       try clear c13
       try clear c16
       try clear c17
       try clear c17b0
       try clear c17b1
       try clear c20
       try clear c21
       try clear c23
       try clear hcz14_0 hcz14_1 hcz14_2 hfz14_0 hfz14_1 hfz14_2
       try clear hcz22_0 hcz22_1 hfz22_0 hfz22_1
       try clear hcz24_0 hcz24_1 hcz24_2 hfz24_0 hfz24_1 hfz24_2
       try clear hcz9_0 hcz9_1 hcz9_2 hfz9_0 hfz9_1 hfz9_2
       obtain ⟨x12_3, x196000_3, x196001_3, rfl, HA, HK3, HO_11, BK192, BK193, BK195, HB⟩ := hrel
       cases gk with
       | zero => exact absurd HA.out (by simp [culletref07_Missed.l0])
       | succ k3 =>
        have H := HA.out
        clear HA
        simp only [culletref07_Missed.l0] at H
        by_cases c26 : x12_3 < (t196.length : Int)
        ·rw [if_pos c26] at H
         have c26b0 : decide (x12_3 < (t196.length : Int)) = true := decide_eq_true c26
         clear c26
         have H' := Aside0.mk H
         clear H
         obtain ⟨Ao27, co27, eo27⟩ := Kd.R_slice HO_11.out
         subst eo27
         go_wp2
         go_loopg [13, 14, 15] k3 (fun kq v13 v14 v15 w' => ∃ (x13_4 : Int) (x14_4 : Int) (x15_4 : Int), v13 = .int .i64 x13_4 ∧ v14 = .int .i64 x14_4 ∧ v15 = .int .i64 x15_4 ∧ Aside0 (culletref07_Missed.l1 kq l1 a2 t196 x12_3 x13_4 x14_4 x15_4 a0_0 l0_1 l0_2 x196000_3 x196001_3 = some (r1, r2, r3, r4)) ∧ Aside0 (kq ≤ k3) ∧ Aside0 (Kd.R (Kd.int .i64) 3 w' w.heap.size (fun _ => True) (.slice Ao27 t196.length co27) t196) ∧ Aside0 (w'.heap[gb192]? = some (.cells #[.int .i64 a0_0, (.slice A0_1 l0_1.length c0_1), (.slice A0_2 l0_2.length c0_2)] 25 (0, 0))) ∧ Aside0 (w'.heap[gb193]? = some (.cells #[.int .i64 0, .int .i64 0] 35 (0, 0))) ∧ Aside0 (w'.heap[gb195]? = some (.cells #[.int .i64 x196000_3, .int .i64 x196001_3] 35 (0, 0))) ∧ Aside0 (Below w.heap.size w w'))
         case atStart => exact ⟨(1), (1), (0), zq10, zq10, zq10, H', ⟨Nat.le_refl _⟩, ⟨(zq1 HO_11.out)⟩, ⟨(zq0 BK192.out)⟩, ⟨(zq0 BK193.out)⟩, ⟨(zq0 BK195.out)⟩, ⟨zq15⟩⟩
         case round =>
          clear H'
          try clear c1
          try clear c2
          try clear p2 p2
          try clear c3
          try clear c8
          try clear c11
          try clear c11b0
          try clear c11b1
          try clear c12
          try clear c12b0
          try clear c13
          try clear c16
          try clear c17
          try clear c17b0
          try clear c17b1
          try clear c20
          try clear c21
          try clear c23
          try clear c26
          try clear c26b0
          try clear hcz14_0 hcz14_1 hcz14_2 hfz14_0 hfz14_1 hfz14_2
          try clear hcz22_0 hcz22_1 hfz22_0 hfz22_1
          try clear hcz24_0 hcz24_1 hcz24_2 hfz24_0 hfz24_1 hfz24_2
          try clear hcz9_0 hcz9_1 hcz9_2 hfz9_0 hfz9_1 hfz9_2
          obtain ⟨x13_4, x14_4, x15_4, rfl, rfl, rfl, HA, HK4, HO_11, BK192, BK193, BK195, HB⟩ := hrel
          cases gk with
          | zero => exact absurd HA.out (by simp [culletref07_Missed.l1])
          | succ k4 =>
           have H := HA.out
           clear HA
           simp only [culletref07_Missed.l1] at H
           by_cases c28 : x15_4 < (l0_2.length : Int)
           ·rw [if_pos c28] at H
            have c28b0 : decide (x15_4 < (l0_2.length : Int)) = true := decide_eq_true c28
            clear c28
            by_cases c29 : 0 ≤ x12_3
            ·rw [if_pos c29] at H
             have c29b0 : decide (0 ≤ x12_3) = true := decide_eq_true c29
             clear c29
             by_cases c30 : x12_3 < (t196.length : Int)
             ·rw [if_pos c30] at H
              have c30b0 : decide (x12_3 < (t196.length : Int)) = true := decide_eq_true c30
              clear c30
              replace H := Option.bind_eq_some_iff.mp H
              obtain ⟨t200, A310, H⟩ := H
              replace H : (if t200 = 1 then ((culletref07_claim.f k4 a0_0 l0_1 l0_2 x15_4 a2).bind fun bt201 => (culletref07_Missed.l1 k4 l1 a2 t196 x12_3 (wrap64 (x13_4 * bt201.2.1)) (wrap64 (x14_4 * bt201.2.2.1)) (wrap64 (x15_4 + 1)) a0_0 l0_1 l0_2 x196000_3 x196001_3)) else (culletref07_Missed.l1 k4 l1 a2 t196 x12_3 x13_4 x14_4 (wrap64 (x15_4 + 1)) a0_0 l0_1 l0_2 x196000_3 x196001_3)) = some (r1, r2, r3, r4) := H
              have A31 := Aside0.mk A310
              clear A310
              by_cases c32 : t200 = 1
              ·rw [if_pos c32] at H
               have c32b0 : (t200 == 1) = true := beq_iff_eq.mpr c32
               have c32b1 : (t200 != 1) = false := bne_eq_false_iff_eq.mpr c32
               clear c32
               replace H := Option.bind_eq_some_iff.mp H
               obtain ⟨⟨t201, t202, t203, t204⟩, A330, H⟩ := H
               replace H : (culletref07_Missed.l1 k4 l1 a2 t196 x12_3 (wrap64 (x13_4 * t202)) (wrap64 (x14_4 * t203)) (wrap64 (x15_4 + 1)) a0_0 l0_1 l0_2 x196000_3 x196001_3) = some (r1, r2, r3, r4) := H
               have A33 := Aside0.mk A330
               clear A330
               have H' := Aside0.mk H
               clear H
               have hnb34 := NB192_193.out
               have hnc34 := NB193_192.out
               have hnb35 := NB192_195.out
               have hnc35 := NB195_192.out
               obtain ⟨hcz36_0, hcz36_1, hcz36_2, hfz36_0, hfz36_1, hfz36_2⟩ := bcs3 BK192.out
               try go_wp2
               have n0_ := Aside0.mk (Kd.R_drew HO_11.out)
               have n1_ := Aside0.mk (blk_drew BK192.out)
               have n2_ := Aside0.mk (blk_drew BK193.out)
               have n3_ := Aside0.mk (blk_drew BK195.out)
               have n4_ := Aside0.mk (below_drew1 HB.out)
               clear HO_11
               clear BK192
               clear BK193
               clear BK195
               clear HB
               have HO_11 := n0_
               have BK192 := n1_
               have BK193 := n2_
               have BK195 := n3_
               have HB := n4_
               clear n0_ n1_ n2_ n3_ n4_
               have p199 : 0 ≤ (x12_3 : Int) := of_decide_eq_true zq7
               have q199 : x12_3 < (t196.length : Int) := of_decide_eq_true zq7
               obtain ⟨ad199, e199, hx199_0⟩ := Kd.at_int (Kd.R_reads' HO_11.out).2.2 x12_3 p199 q199
               cases e199
               replace p199 := eq_true p199
               replace q199 := eq_true q199
               refine start_ (n := 10) (S := fun w' => w'.cell? ⟨gb192, 0, none⟩ = some (.int .i64 a0_0) ∧ w'.cell? ⟨gb192, 1, none⟩ = some (.slice A0_1 l0_1.length c0_1) ∧ w'.cell? ⟨gb192, 2, none⟩ = some (.slice A0_2 l0_2.length c0_2) ∧ w'.cell? (ad199.add (x12_3).toNat) = some (.int .i64 (rd t196 x12_3))) (ds := []) #[false, false, false, false, false, false, false, false, false, false] zq22 rfl rfl ⟨(blk_cell BK192.out 0).trans rfl, (blk_cell BK192.out 1).trans rfl, (blk_cell BK192.out 2).trans rfl, hx199_0⟩ (fun hHeld => ?_); refine with_tabW culletref07_Missed.tab15 culletref07_Missed.bits15 (fun HT_ HW_ => ?_)
               generalize wr.drew = w37 at HO_11 BK192 BK193 BK195 HB hx199_0 hHeld ⊢
               refine pure_ (i := 1) (N := some 57) (v := ?_) (a' := ?_) #[false, true, false, false, false, false, false, false, false, false] rfl rfl (any_of HT_.out zq22) (fun _ _ _ h => h) (Or.inl ⟨zq58, ?_⟩) ?_ ?_
               rotate_left
               exact zpw
               rotate_left
               exact zpa
               refine pure_ (i := 2) (N := some 58) (v := ?_) (a' := ?_) #[false, true, true, false, false, false, false, false, false, false] rfl rfl (any_of HT_.out zq22) (fun _ _ _ h => h) (Or.inl ⟨zq58, ?_⟩) ?_ ?_
               rotate_left
               exact zpw
               rotate_left
               exact zpa
               refine pure_ (i := 3) (N := some 59) (v := ?_) (a' := ?_) #[false, true, true, true, false, false, false, false, false, false] rfl rfl (any_of HT_.out zq22) (fun _ _ _ h => h) (Or.inl ⟨zq58, ?_⟩) ?_ ?_
               rotate_left
               exact zpw
               rotate_left
               exact zpa
               refine pure_ (i := 4) (N := some 60) (v := ?_) (a' := ?_) #[false, true, true, true, true, false, false, false, false, false] rfl rfl (any_of HT_.out zq22) (fun _ _ _ h => h) (Or.inl ⟨zq58, ?_⟩) ?_ ?_
               rotate_left
               exact zpw
               rotate_left
               exact zpa
               refine pure_ (i := 5) (N := some 61) (v := ?_) (a' := ?_) #[false, true, true, true, true, true, false, false, false, false] rfl rfl (any_of HT_.out zq22) (fun _ _ _ h => h) (Or.inl ⟨zq58, ?_⟩) ?_ ?_
               rotate_left
               exact zpw
               rotate_left
               exact zpa
               refine pure_ (i := 6) (N := some 62) (v := ?_) (a' := ?_) #[false, true, true, true, true, true, true, false, false, false] rfl rfl (any_of HT_.out zq22) (fun _ _ _ h => h) (Or.inl ⟨zq58, ?_⟩) ?_ ?_
               rotate_left
               exact zpw
               rotate_left
               exact zpa
               refine take_ (i := 0) (N := some 56) (v := ?_) (a' := ?_) #[true, true, true, true, true, true, true, false, false, false] rfl rfl (take_ofW HT_.out HW_.out zq22) (fun _ _ _ h => h) (Or.inl ⟨zq58, ?_⟩) hHeld ?_ ?_
               rotate_left
               ·rintro w' ⟨s0, s1, s2, s3⟩
                go_simp
                with_reducible rfl
               rotate_left
               exact zpa
               refine take_ (i := 7) (N := some 63) (v := ?_) (a' := ?_) #[true, true, true, true, true, true, true, true, false, false] rfl rfl (take_ofW HT_.out HW_.out zq22) (fun _ _ _ h => h) (Or.inl ⟨zq58, ?_⟩) hHeld ?_ ?_
               rotate_left
               ·rintro w' ⟨s0, s1, s2, s3⟩
                go_simp
                with_reducible rfl
               rotate_left
               exact zpa
               refine one_ (i := 8) (N := some 64) #[true, true, true, true, true, true, true, true, true, false] rfl rfl (one_of HT_.out zq22) zq56 (fun K hK => ?_)
               refine goes_ Try.func41 zq22 rfl #[.agg #[.int .i64 a0_0, .slice A0_1 l0_1.length c0_1, .slice A0_2 l0_2.length c0_2], .slice A1 l1.length c1, .int .i64 x15_4, .int .i64 a2, .int .i64 (rd t196 x12_3)] zq58 rfl rfl zq4 ?_
               with_reducible refine (culletref07_trusted.calls k4 a0_0 _ _ l0_1 _ _ l0_2 _ _ l1 x15_4 a2 (rd t196 x12_3) t200 _ ?side1 ?side2 ?side3 ?side4 ?side5 ?side6 A31.out).mono ?_
               (case side1 => exact zq5)
               (case side2 => exact HC0_1.out)
               (case side3 => exact zq6)
               (case side4 => exact HC0_2.out)
               (case side5 => exact zq12)
               (case side6 => exact HC1.out)
               rintro e w38 ⟨rfl, hb⟩
               have HS3_ := (hb.cell (World.block_lt_of_cell? _ _ (hHeld.2.2.2))).trans (hHeld.2.2.2)
               refine ⟨_, rfl, ?_⟩
               have n0_ := Aside0.mk (Kd.R_below (zq1 HO_11.out) hb)
               have n1_ := Aside0.mk (blk_below (zq0 BK192.out) hb)
               have n2_ := Aside0.mk (blk_below (zq0 BK193.out) hb)
               have n3_ := Aside0.mk (blk_below (zq0 BK195.out) hb)
               have n4_ := Aside0.mk (below_step zq15 hb)
               clear HO_11
               clear BK192
               clear BK193
               clear BK195
               clear HB
               have HO_11 := n0_
               have BK192 := n1_
               have BK193 := n2_
               have BK195 := n3_
               have HB := n4_
               clear n0_ n1_ n2_ n3_ n4_
               (try clear hb)
               (try clear hb2)
               (try clear hk)
               (try clear hi)
               refine hK.out _ _ ⟨(blk_cell BK192.out 0).trans rfl, (blk_cell BK192.out 1).trans rfl, (blk_cell BK192.out 2).trans rfl, HS3_⟩ (fun hHeld => ?_)
               clear hK K
               refine norm_ (a' := ?_) ?_ ?_
               rotate_left
               ·show Act.put _ (some 64) _ = _
                simp only [Act.put, List.setIfInBounds_toArray, List.set_cons_zero, List.set_cons_succ, i64_w, i32_w]
                rfl
               refine pure_ (i := 9) (N := some 65) (v := ?_) (a' := ?_) #[true, true, true, true, true, true, true, true, true, true] rfl rfl (any_of HT_.out zq22) (fun _ _ _ h => h) (Or.inl ⟨zq58, ?_⟩) ?_ ?_
               rotate_left
               exact zpw
               rotate_left
               exact zpa
               refine done_ (done_of HT_.out zq22) ?_
               obtain ⟨hcz39_0, hcz39_1, hcz39_2, hfz39_0, hfz39_1, hfz39_2⟩ := bcs3 BK192.out
               try go_wp2_with (first | ((with_reducible refine gate_callee (f := 42) rfl ?_); refine goesL_ (some 70) rfl rfl Try.func42 zq22 rfl #[.agg #[.int .i64 a0_0, .slice A0_1 l0_1.length c0_1, .slice A0_2 l0_2.length c0_2], .int .i64 x15_4, .int .i64 a2] rfl zq4 ?_; (with_reducible refine (culletref07_claim.calls k4 a0_0 _ _ l0_1 _ _ l0_2 x15_4 a2 t201 t202 t203 t204 _ ?side1 ?side2 ?side3 ?side4 A33.out).mono ?_); (case side1 => exact zq5); (case side2 => exact HC0_1.out); (case side3 => exact zq6); (case side4 => exact HC0_2.out); rintro e w40 ⟨rfl, hb⟩; refine ⟨_, rfl, ?_⟩; have n_ := as5 (Kd.R_below (zq1 HO_11.out) hb) (blk_below (zq0 BK192.out) hb) (blk_below (zq0 BK193.out) hb) (blk_below (zq0 BK195.out) hb) (below_step zq15 hb); clear HO_11 BK192 BK193 BK195 HB; obtain ⟨HO_11, BK192, BK193, BK195, HB⟩ := n_; (try clear hb); (try clear hb2); (try clear hk); (try clear hi)) | ((with_reducible refine gate_dst (N := 16) rfl ?_); (try (refine gate_guard zq58 ?_; dsimp only)); refine box_event ?hg (N := 16) ?hd (cs := #[.int .i64 0, .int .i64 0, .int .i64 0]) (t := 68) ?hr ?_; (case hd => rfl); (case hg => rfl); (case hr => exact zq11); intro gb205 hg w41 hbox hb; have n_ := as14 (Kd.R_below (zq1 HO_11.out) hb) (blk_below (zq0 BK192.out) hb) (blk_below (zq0 BK193.out) hb) (blk_below (zq0 BK195.out) hb) (below_step zq15 hb) (hbox) ((zq133 : w.heap.size ≤ gb205)) ((zq133 : w.heap.size ≤ gb205)) ((zq118 : gb192 ≠ gb205)) ((zq119 : gb205 ≠ gb192)) ((zq141 : gb193 ≠ gb205)) ((zq142 : gb205 ≠ gb193)) ((by rw [hg]; exact Nat.ne_of_lt (blk_lt (zq0 BK195.out)) : gb195 ≠ gb205)) ((by rw [hg]; exact Nat.ne_of_gt (blk_lt (zq0 BK195.out)) : gb205 ≠ gb195)); clear HO_11 BK192 BK193 BK195 HB hb hbox hg; obtain ⟨HO_11, BK192, BK193, BK195, HB, BK205, GW205, GE205, NB192_205, NB205_192, NB193_205, NB205_193, NB195_205, NB205_195⟩ := n_; have hnb42 := NB205_192.out; have hnc42 := NB192_205.out; have hnb43 := NB205_193.out; have hnc43 := NB193_205.out; have hnb44 := NB205_195.out; have hnc44 := NB195_205.out; obtain ⟨hcz45_0, hcz45_1, hcz45_2, hfz45_0, hfz45_1, hfz45_2⟩ := bcs3 BK205.out))
               go_roundg k4
               case measure => have := HJ4.out; have := HJ14.out; have := HK3.out; have := HK4.out; omega
               case rel => exact ⟨(wrap64 (x13_4 * t202)), (wrap64 (x14_4 * t203)), (wrap64 (x15_4 + 1)), zq10, zq10, zq10, H', ⟨zq112⟩, ⟨by (with_reducible repeat (first | apply Kd.R_alloc | apply Kd.R_drewN | apply Kd.R_drew)); exact Kd.R_mono (Kd.R_far (p := ⟨gb205, 2, none⟩) (Kd.R_far (p := ⟨gb205, 1, none⟩) (Kd.R_far (p := ⟨gb205, 0, none⟩) (Kd.R_types HO_11.out BK205.out zq56) (fun _ hk => hk.2) (.int .i64 t201)) (fun _ hk => hk.2) (.int .i64 t202)) (fun _ hk => hk.2) (.int .i64 t203)) (fun _ hk => trivial)⟩, ⟨(bch1 NB192_205.out BK192.out)⟩, ⟨(bch1 NB193_205.out BK193.out)⟩, ⟨(bch1 NB195_205.out BK195.out)⟩, ⟨by repeat (first | (with_reducible first | exact HB.out | apply below_alloc | apply pw_below_drewN | apply below_drew1 | refine below_set ?_ GE192.out | refine below_set ?_ GE193.out | refine below_set ?_ GE195.out | refine below_set ?_ GE205.out) | exact HB.out)⟩⟩
              ·rw [if_neg c32] at H
               have c32b0 : (t200 == 1) = false := beq_eq_false_iff_ne.mpr c32
               have c32b1 : (t200 != 1) = true := bne_iff_ne.mpr c32
               have H' := Aside0.mk H
               clear H
               have hnb46 := NB192_193.out
               have hnc46 := NB193_192.out
               have hnb47 := NB192_195.out
               have hnc47 := NB195_192.out
               obtain ⟨hcz48_0, hcz48_1, hcz48_2, hfz48_0, hfz48_1, hfz48_2⟩ := bcs3 BK192.out
               try go_wp2
               have n0_ := Aside0.mk (Kd.R_drew HO_11.out)
               have n1_ := Aside0.mk (blk_drew BK192.out)
               have n2_ := Aside0.mk (blk_drew BK193.out)
               have n3_ := Aside0.mk (blk_drew BK195.out)
               have n4_ := Aside0.mk (below_drew1 HB.out)
               clear HO_11
               clear BK192
               clear BK193
               clear BK195
               clear HB
               have HO_11 := n0_
               have BK192 := n1_
               have BK193 := n2_
               have BK195 := n3_
               have HB := n4_
               clear n0_ n1_ n2_ n3_ n4_
               have p199 : 0 ≤ (x12_3 : Int) := of_decide_eq_true zq7
               have q199 : x12_3 < (t196.length : Int) := of_decide_eq_true zq7
               obtain ⟨ad199, e199, hx199_0⟩ := Kd.at_int (Kd.R_reads' HO_11.out).2.2 x12_3 p199 q199
               cases e199
               replace p199 := eq_true p199
               replace q199 := eq_true q199
               refine start_ (n := 10) (S := fun w' => w'.cell? ⟨gb192, 0, none⟩ = some (.int .i64 a0_0) ∧ w'.cell? ⟨gb192, 1, none⟩ = some (.slice A0_1 l0_1.length c0_1) ∧ w'.cell? ⟨gb192, 2, none⟩ = some (.slice A0_2 l0_2.length c0_2) ∧ w'.cell? (ad199.add (x12_3).toNat) = some (.int .i64 (rd t196 x12_3))) (ds := []) #[false, false, false, false, false, false, false, false, false, false] zq22 rfl rfl ⟨(blk_cell BK192.out 0).trans rfl, (blk_cell BK192.out 1).trans rfl, (blk_cell BK192.out 2).trans rfl, hx199_0⟩ (fun hHeld => ?_); refine with_tabW culletref07_Missed.tab15 culletref07_Missed.bits15 (fun HT_ HW_ => ?_)
               generalize wr.drew = w49 at HO_11 BK192 BK193 BK195 HB hx199_0 hHeld ⊢
               refine pure_ (i := 1) (N := some 57) (v := ?_) (a' := ?_) #[false, true, false, false, false, false, false, false, false, false] rfl rfl (any_of HT_.out zq22) (fun _ _ _ h => h) (Or.inl ⟨zq58, ?_⟩) ?_ ?_
               rotate_left
               exact zpw
               rotate_left
               exact zpa
               refine pure_ (i := 2) (N := some 58) (v := ?_) (a' := ?_) #[false, true, true, false, false, false, false, false, false, false] rfl rfl (any_of HT_.out zq22) (fun _ _ _ h => h) (Or.inl ⟨zq58, ?_⟩) ?_ ?_
               rotate_left
               exact zpw
               rotate_left
               exact zpa
               refine pure_ (i := 3) (N := some 59) (v := ?_) (a' := ?_) #[false, true, true, true, false, false, false, false, false, false] rfl rfl (any_of HT_.out zq22) (fun _ _ _ h => h) (Or.inl ⟨zq58, ?_⟩) ?_ ?_
               rotate_left
               exact zpw
               rotate_left
               exact zpa
               refine pure_ (i := 4) (N := some 60) (v := ?_) (a' := ?_) #[false, true, true, true, true, false, false, false, false, false] rfl rfl (any_of HT_.out zq22) (fun _ _ _ h => h) (Or.inl ⟨zq58, ?_⟩) ?_ ?_
               rotate_left
               exact zpw
               rotate_left
               exact zpa
               refine pure_ (i := 5) (N := some 61) (v := ?_) (a' := ?_) #[false, true, true, true, true, true, false, false, false, false] rfl rfl (any_of HT_.out zq22) (fun _ _ _ h => h) (Or.inl ⟨zq58, ?_⟩) ?_ ?_
               rotate_left
               exact zpw
               rotate_left
               exact zpa
               refine pure_ (i := 6) (N := some 62) (v := ?_) (a' := ?_) #[false, true, true, true, true, true, true, false, false, false] rfl rfl (any_of HT_.out zq22) (fun _ _ _ h => h) (Or.inl ⟨zq58, ?_⟩) ?_ ?_
               rotate_left
               exact zpw
               rotate_left
               exact zpa
               refine take_ (i := 0) (N := some 56) (v := ?_) (a' := ?_) #[true, true, true, true, true, true, true, false, false, false] rfl rfl (take_ofW HT_.out HW_.out zq22) (fun _ _ _ h => h) (Or.inl ⟨zq58, ?_⟩) hHeld ?_ ?_
               rotate_left
               ·rintro w' ⟨s0, s1, s2, s3⟩
                go_simp
                with_reducible rfl
               rotate_left
               exact zpa
               refine take_ (i := 7) (N := some 63) (v := ?_) (a' := ?_) #[true, true, true, true, true, true, true, true, false, false] rfl rfl (take_ofW HT_.out HW_.out zq22) (fun _ _ _ h => h) (Or.inl ⟨zq58, ?_⟩) hHeld ?_ ?_
               rotate_left
               ·rintro w' ⟨s0, s1, s2, s3⟩
                go_simp
                with_reducible rfl
               rotate_left
               exact zpa
               refine one_ (i := 8) (N := some 64) #[true, true, true, true, true, true, true, true, true, false] rfl rfl (one_of HT_.out zq22) zq56 (fun K hK => ?_)
               refine goes_ Try.func41 zq22 rfl #[.agg #[.int .i64 a0_0, .slice A0_1 l0_1.length c0_1, .slice A0_2 l0_2.length c0_2], .slice A1 l1.length c1, .int .i64 x15_4, .int .i64 a2, .int .i64 (rd t196 x12_3)] zq58 rfl rfl zq4 ?_
               with_reducible refine (culletref07_trusted.calls k4 a0_0 _ _ l0_1 _ _ l0_2 _ _ l1 x15_4 a2 (rd t196 x12_3) t200 _ ?side1 ?side2 ?side3 ?side4 ?side5 ?side6 A31.out).mono ?_
               (case side1 => exact zq5)
               (case side2 => exact HC0_1.out)
               (case side3 => exact zq6)
               (case side4 => exact HC0_2.out)
               (case side5 => exact zq12)
               (case side6 => exact HC1.out)
               rintro e w50 ⟨rfl, hb⟩
               have HS3_ := (hb.cell (World.block_lt_of_cell? _ _ (hHeld.2.2.2))).trans (hHeld.2.2.2)
               refine ⟨_, rfl, ?_⟩
               have n0_ := Aside0.mk (Kd.R_below (zq1 HO_11.out) hb)
               have n1_ := Aside0.mk (blk_below (zq0 BK192.out) hb)
               have n2_ := Aside0.mk (blk_below (zq0 BK193.out) hb)
               have n3_ := Aside0.mk (blk_below (zq0 BK195.out) hb)
               have n4_ := Aside0.mk (below_step zq15 hb)
               clear HO_11
               clear BK192
               clear BK193
               clear BK195
               clear HB
               have HO_11 := n0_
               have BK192 := n1_
               have BK193 := n2_
               have BK195 := n3_
               have HB := n4_
               clear n0_ n1_ n2_ n3_ n4_
               (try clear hb)
               (try clear hb2)
               (try clear hk)
               (try clear hi)
               refine hK.out _ _ ⟨(blk_cell BK192.out 0).trans rfl, (blk_cell BK192.out 1).trans rfl, (blk_cell BK192.out 2).trans rfl, HS3_⟩ (fun hHeld => ?_)
               clear hK K
               refine norm_ (a' := ?_) ?_ ?_
               rotate_left
               ·show Act.put _ (some 64) _ = _
                simp only [Act.put, List.setIfInBounds_toArray, List.set_cons_zero, List.set_cons_succ, i64_w, i32_w]
                rfl
               refine pure_ (i := 9) (N := some 65) (v := ?_) (a' := ?_) #[true, true, true, true, true, true, true, true, true, true] rfl rfl (any_of HT_.out zq22) (fun _ _ _ h => h) (Or.inl ⟨zq58, ?_⟩) ?_ ?_
               rotate_left
               exact zpw
               rotate_left
               exact zpa
               refine done_ (done_of HT_.out zq22) ?_
               try go_wp2
               go_roundg k4
               case measure => have := HJ4.out; have := HJ14.out; have := HK3.out; have := HK4.out; omega
               case rel => exact ⟨(x13_4), (x14_4), (wrap64 (x15_4 + 1)), zq10, zq10, zq10, H', ⟨zq112⟩, ⟨(zq1 HO_11.out)⟩, ⟨(zq0 BK192.out)⟩, ⟨(zq0 BK193.out)⟩, ⟨(zq0 BK195.out)⟩, ⟨zq15⟩⟩
             ·rw [if_neg c30] at H
              exact absurd H zq63
            ·rw [if_neg c29] at H
             exact absurd H zq63
           ·rw [if_neg c28] at H
            have c28b0 : decide (x15_4 < (l0_2.length : Int)) = false := decide_eq_false c28
            clear c28
            replace H := Option.bind_eq_some_iff.mp H
            obtain ⟨⟨t206, t207⟩, A510, H⟩ := H
            replace H : ((culletref04_Less.f k4 x196000_3 x196001_3 t206 t207).bind fun t209 => (if t209 = true then (culletref07_Missed.l0 k4 l1 a2 t196 (wrap64 (x12_3 + 1)) a0_0 l0_1 l0_2 t206 t207) else (culletref07_Missed.l0 k4 l1 a2 t196 (wrap64 (x12_3 + 1)) a0_0 l0_1 l0_2 x196000_3 x196001_3))) = some (r1, r2, r3, r4) := H
            have A51 := Aside0.mk A510
            clear A510
            replace H := Option.bind_eq_some_iff.mp H
            obtain ⟨t209, A520, H⟩ := H
            replace H : (if t209 = true then (culletref07_Missed.l0 k4 l1 a2 t196 (wrap64 (x12_3 + 1)) a0_0 l0_1 l0_2 t206 t207) else (culletref07_Missed.l0 k4 l1 a2 t196 (wrap64 (x12_3 + 1)) a0_0 l0_1 l0_2 x196000_3 x196001_3)) = some (r1, r2, r3, r4) := H
            have A52 := Aside0.mk A520
            clear A520
            by_cases c53 : t209 = true
            ·subst c53
             have H1 : (culletref07_Missed.l0 k4 l1 a2 t196 (wrap64 (x12_3 + 1)) a0_0 l0_1 l0_2 t206 t207) = some (r1, r2, r3, r4) := by rw [if_pos rfl] at H; exact H
             clear H
             have H := H1
             clear H1
             have H' := Aside0.mk H
             clear H
             have hnb54 := NB192_193.out
             have hnc54 := NB193_192.out
             have hnb55 := NB192_195.out
             have hnc55 := NB195_192.out
             obtain ⟨hcz56_0, hcz56_1, hcz56_2, hfz56_0, hfz56_1, hfz56_2⟩ := bcs3 BK192.out
             go_wp2_with (first | ((with_reducible refine gate_callee (f := 28) rfl ?_); refine goesL_ (some 83) rfl rfl Try.func28 zq22 rfl #[.int .i64 x13_4, .int .i64 x14_4] rfl zq4 ?_; (with_reducible refine (culletref04_Made.calls k4 x13_4 x14_4 t206 t207 _ A51.out).mono ?_); rintro e w57 ⟨rfl, hb⟩; refine ⟨_, rfl, ?_⟩; have n_ := as5 (Kd.R_below (zq1 HO_11.out) hb) (blk_below (zq0 BK192.out) hb) (blk_below (zq0 BK193.out) hb) (blk_below (zq0 BK195.out) hb) (below_step zq15 hb); clear HO_11 BK192 BK193 BK195 HB; obtain ⟨HO_11, BK192, BK193, BK195, HB⟩ := n_; (try clear hb); (try clear hb2); (try clear hk); (try clear hi)) | ((with_reducible refine gate_dst (N := 18) rfl ?_); (try (refine gate_guard zq58 ?_; dsimp only)); refine box_event ?hg (N := 18) ?hd (cs := #[.int .i64 0, .int .i64 0]) (t := 35) ?hr ?_; (case hd => rfl); (case hg => rfl); (case hr => exact zq11); intro gb208 hg w58 hbox hb; have n_ := as14 (Kd.R_below (zq1 HO_11.out) hb) (blk_below (zq0 BK192.out) hb) (blk_below (zq0 BK193.out) hb) (blk_below (zq0 BK195.out) hb) (below_step zq15 hb) (hbox) ((zq133 : w.heap.size ≤ gb208)) ((zq133 : w.heap.size ≤ gb208)) ((zq118 : gb192 ≠ gb208)) ((zq119 : gb208 ≠ gb192)) ((zq141 : gb193 ≠ gb208)) ((zq142 : gb208 ≠ gb193)) ((by rw [hg]; exact Nat.ne_of_lt (blk_lt (zq0 BK195.out)) : gb195 ≠ gb208)) ((by rw [hg]; exact Nat.ne_of_gt (blk_lt (zq0 BK195.out)) : gb208 ≠ gb195)); clear HO_11 BK192 BK193 BK195 HB hb hbox hg; obtain ⟨HO_11, BK192, BK193, BK195, HB, BK208, GW208, GE208, NB192_208, NB208_192, NB193_208, NB208_193, NB195_208, NB208_195⟩ := n_; have hnb59 := NB208_192.out; have hnc59 := NB192_208.out; have hnb60 := NB208_193.out; have hnc60 := NB193_208.out; have hnb61 := NB208_195.out; have hnc61 := NB195_208.out; obtain ⟨hcz62_0, hcz62_1, hfz62_0, hfz62_1⟩ := bcs2 BK208.out; have hnb63 := NB195_193.out; have hnc63 := NB193_195.out; obtain ⟨hcz64_0, hcz64_1, hfz64_0, hfz64_1⟩ := bcs2 BK195.out) | ((with_reducible refine gate_callee (f := 29) rfl ?_); refine goesL_ (some 86) rfl rfl Try.func29 zq22 rfl #[.agg #[.int .i64 x196000_3, .int .i64 x196001_3], .agg #[.int .i64 t206, .int .i64 t207]] rfl zq4 ?_; (with_reducible refine (culletref04_Less.calls k4 x196000_3 x196001_3 t206 t207 true _ A52.out).mono ?_); rintro e w65 ⟨rfl, hb⟩; refine ⟨_, rfl, ?_⟩; have n_ := as6 (Kd.R_below zq101 hb) (blk_below (g := gb192) (o := .cells #[.int .i64 a0_0, .slice A0_1 l0_1.length c0_1, .slice A0_2 l0_2.length c0_2] 25 (0, 0)) (bch1 NB192_208.out BK192.out) hb) (blk_below (g := gb193) (o := .cells #[.int .i64 0, .int .i64 0] 35 (0, 0)) (bch1 NB193_208.out BK193.out) hb) (blk_below (g := gb195) (o := .cells #[.int .i64 x196000_3, .int .i64 x196001_3] 35 (0, 0)) (bch1 NB195_208.out BK195.out) hb) (blk_below (g := gb208) (o := .cells #[.int .i64 t206, .int .i64 t207] 35 (0, 0)) (bch0p BK208.out) hb) (below_step zq55 hb); clear HO_11 BK192 BK193 BK195 BK208 HB; obtain ⟨HO_11, BK192, BK193, BK195, BK208, HB⟩ := n_; (try clear hb); (try clear hb2); (try clear hk); (try clear hi); obtain ⟨hcz66_0, hcz66_1, hfz66_0, hfz66_1⟩ := bcs2 BK208.out; obtain ⟨hcz67_0, hcz67_1, hfz67_0, hfz67_1⟩ := bcs2 BK195.out))
             go_roundg k4
             case measure => have := HJ4.out; have := HJ14.out; have := HK3.out; have := HK4.out; omega
             case rel => exact ⟨(wrap64 (x12_3 + 1)), (t206), (t207), zq10, H', ⟨zq112⟩, ⟨by (with_reducible repeat (first | apply Kd.R_alloc | apply Kd.R_drewN | apply Kd.R_drew)); exact Kd.R_mono (Kd.R_far (p := ⟨gb195, 1, none⟩) (Kd.R_far (p := ⟨gb195, 0, none⟩) (Kd.R_types HO_11.out BK195.out zq56) (fun _ hk => hk.2) (.int .i64 t206)) (fun _ hk => hk.2) (.int .i64 t207)) (fun _ hk => trivial)⟩, ⟨(bch1 NB192_195.out BK192.out)⟩, ⟨(bch1 NB193_195.out BK193.out)⟩, ⟨(bch0p BK195.out)⟩, ⟨zq55⟩⟩
            ·replace c53 := Bool.eq_false_iff.mpr c53
             subst c53
             have H1 : (culletref07_Missed.l0 k4 l1 a2 t196 (wrap64 (x12_3 + 1)) a0_0 l0_1 l0_2 x196000_3 x196001_3) = some (r1, r2, r3, r4) := by rw [if_neg (show ¬ (false = true) by decide)] at H; exact H
             clear H
             have H := H1
             clear H1
             have H' := Aside0.mk H
             clear H
             have hnb68 := NB192_193.out
             have hnc68 := NB193_192.out
             have hnb69 := NB192_195.out
             have hnc69 := NB195_192.out
             obtain ⟨hcz70_0, hcz70_1, hcz70_2, hfz70_0, hfz70_1, hfz70_2⟩ := bcs3 BK192.out
             go_wp2_with (first | ((with_reducible refine gate_callee (f := 28) rfl ?_); refine goesL_ (some 83) rfl rfl Try.func28 zq22 rfl #[.int .i64 x13_4, .int .i64 x14_4] rfl zq4 ?_; (with_reducible refine (culletref04_Made.calls k4 x13_4 x14_4 t206 t207 _ A51.out).mono ?_); rintro e w71 ⟨rfl, hb⟩; refine ⟨_, rfl, ?_⟩; have n_ := as5 (Kd.R_below (zq1 HO_11.out) hb) (blk_below (zq0 BK192.out) hb) (blk_below (zq0 BK193.out) hb) (blk_below (zq0 BK195.out) hb) (below_step zq15 hb); clear HO_11 BK192 BK193 BK195 HB; obtain ⟨HO_11, BK192, BK193, BK195, HB⟩ := n_; (try clear hb); (try clear hb2); (try clear hk); (try clear hi)) | ((with_reducible refine gate_dst (N := 18) rfl ?_); (try (refine gate_guard zq58 ?_; dsimp only)); refine box_event ?hg (N := 18) ?hd (cs := #[.int .i64 0, .int .i64 0]) (t := 35) ?hr ?_; (case hd => rfl); (case hg => rfl); (case hr => exact zq11); intro gb208 hg w72 hbox hb; have n_ := as14 (Kd.R_below (zq1 HO_11.out) hb) (blk_below (zq0 BK192.out) hb) (blk_below (zq0 BK193.out) hb) (blk_below (zq0 BK195.out) hb) (below_step zq15 hb) (hbox) ((zq133 : w.heap.size ≤ gb208)) ((zq133 : w.heap.size ≤ gb208)) ((zq118 : gb192 ≠ gb208)) ((zq119 : gb208 ≠ gb192)) ((zq141 : gb193 ≠ gb208)) ((zq142 : gb208 ≠ gb193)) ((by rw [hg]; exact Nat.ne_of_lt (blk_lt (zq0 BK195.out)) : gb195 ≠ gb208)) ((by rw [hg]; exact Nat.ne_of_gt (blk_lt (zq0 BK195.out)) : gb208 ≠ gb195)); clear HO_11 BK192 BK193 BK195 HB hb hbox hg; obtain ⟨HO_11, BK192, BK193, BK195, HB, BK208, GW208, GE208, NB192_208, NB208_192, NB193_208, NB208_193, NB195_208, NB208_195⟩ := n_; have hnb73 := NB208_192.out; have hnc73 := NB192_208.out; have hnb74 := NB208_193.out; have hnc74 := NB193_208.out; have hnb75 := NB208_195.out; have hnc75 := NB195_208.out; obtain ⟨hcz76_0, hcz76_1, hfz76_0, hfz76_1⟩ := bcs2 BK208.out; have hnb77 := NB195_193.out; have hnc77 := NB193_195.out; obtain ⟨hcz78_0, hcz78_1, hfz78_0, hfz78_1⟩ := bcs2 BK195.out) | ((with_reducible refine gate_callee (f := 29) rfl ?_); refine goesL_ (some 86) rfl rfl Try.func29 zq22 rfl #[.agg #[.int .i64 x196000_3, .int .i64 x196001_3], .agg #[.int .i64 t206, .int .i64 t207]] rfl zq4 ?_; (with_reducible refine (culletref04_Less.calls k4 x196000_3 x196001_3 t206 t207 false _ A52.out).mono ?_); rintro e w79 ⟨rfl, hb⟩; refine ⟨_, rfl, ?_⟩; have n_ := as6 (Kd.R_below zq101 hb) (blk_below (g := gb192) (o := .cells #[.int .i64 a0_0, .slice A0_1 l0_1.length c0_1, .slice A0_2 l0_2.length c0_2] 25 (0, 0)) (bch1 NB192_208.out BK192.out) hb) (blk_below (g := gb193) (o := .cells #[.int .i64 0, .int .i64 0] 35 (0, 0)) (bch1 NB193_208.out BK193.out) hb) (blk_below (g := gb195) (o := .cells #[.int .i64 x196000_3, .int .i64 x196001_3] 35 (0, 0)) (bch1 NB195_208.out BK195.out) hb) (blk_below (g := gb208) (o := .cells #[.int .i64 t206, .int .i64 t207] 35 (0, 0)) (bch0p BK208.out) hb) (below_step zq55 hb); clear HO_11 BK192 BK193 BK195 BK208 HB; obtain ⟨HO_11, BK192, BK193, BK195, BK208, HB⟩ := n_; (try clear hb); (try clear hb2); (try clear hk); (try clear hi)))
             go_roundg k4
             case measure => have := HJ4.out; have := HJ14.out; have := HK3.out; have := HK4.out; omega
             case rel => exact ⟨(wrap64 (x12_3 + 1)), (x196000_3), (x196001_3), zq10, H', ⟨zq112⟩, ⟨(zq1 HO_11.out)⟩, ⟨(zq0 BK192.out)⟩, ⟨(zq0 BK193.out)⟩, ⟨(zq0 BK195.out)⟩, ⟨zq55⟩⟩
        ·rw [if_neg c26] at H
         have c26b0 : decide (x12_3 < (t196.length : Int)) = false := decide_eq_false c26
         clear c26
         simp only [Option.some.injEq, Prod.mk.injEq] at H
         obtain ⟨rfl, rfl, rfl, rfl⟩ := H
         obtain ⟨Ao80, co80, eo80⟩ := Kd.R_slice HO_11.out
         subst eo80
         have hnb81 := NB195_192.out
         have hnc81 := NB192_195.out
         have hnb82 := NB195_193.out
         have hnc82 := NB193_195.out
         obtain ⟨hcz83_0, hcz83_1, hfz83_0, hfz83_1⟩ := bcs2 BK195.out
         have hnb84 := NB193_192.out
         have hnc84 := NB192_193.out
         obtain ⟨hcz85_0, hcz85_1, hfz85_0, hfz85_1⟩ := bcs2 BK193.out
         go_wp2
         refine bodyPost_ret (results_ctt rfl _ _ gb193 35 #[.int .i64 x196000_3, .int .i64 x196001_3] (0, 0) _ rfl (bch0p BK193.out) Try.underlying35 rfl zq22) rfl ?_
         exact ⟨zq9, zq15⟩
     ·rw [if_neg c17] at H
      have c17b0 : (x9_14 == 0) = false := beq_eq_false_iff_ne.mpr c17
      have c17b1 : (x9_14 != 0) = true := bne_iff_ne.mpr c17
      simp only [Option.some.injEq, Prod.mk.injEq] at H
      obtain ⟨rfl, rfl, rfl, rfl⟩ := H
      have hnb86 := NB193_192.out
      have hnc86 := NB192_193.out
      obtain ⟨hcz87_0, hcz87_1, hfz87_0, hfz87_1⟩ := bcs2 BK193.out
      go_wp2
      refine bodyPost_ret (results_ctt rfl _ _ gb193 35 #[.int .i64 0, .int .i64 0] (0, 0) _ rfl (bch0p BK193.out) Try.underlying35 rfl zq22) rfl ?_
      exact ⟨zq9, zq44⟩
theorem wnat (z : Nat) (h : z ≤ 1000000000000000) : wrap64 (z : Int) = (z : Int) := by unfold wrap64; omega
theorem tmod_nat (a b : Nat) : Int.tmod (a : Int) (b : Int) = ((a % b : Nat) : Int) := by
 rw [Int.tmod_eq_emod_of_nonneg zq17]; rfl
theorem tdiv_nat (a b : Nat) : Int.tdiv (a : Int) (b : Int) = ((a / b : Nat) : Int) := by
 rw [Int.tdiv_eq_ediv_of_nonneg zq17]; rfl
theorem rdiv_eq : ∀ (k b a : Nat), b < k → culletref04_Divisor.l0 k (a : Int) (b : Int) = some ((Nat.gcd a b : Nat) : Int)
 | 0, b, a, h => by omega
 | k + 1, b, a, h => by
  rw [culletref04_Divisor.l0]
  by_cases hb : b = 0
  ·subst hb
   rw [if_pos (show ((0 : Nat) : Int) = 0 from rfl), Nat.gcd_zero_right]
  ·rw [if_neg zq17, tmod_nat, rdiv_eq k (a % b) b (by have := Nat.mod_lt a (show 0 < b by omega); omega), Nat.gcd_comm a b, Nat.gcd_rec b a, Nat.gcd_comm (a % b) b]
theorem rmade_eq (n d k : Nat) (hd : 0 < d) (hn : n ≤ 1000000000000) (hd2 : d ≤ 1000000000000) (hk : d < k) : culletref04_Made.f k (n : Int) (d : Int) = some (((n / Nat.gcd n d : Nat) : Int), ((d / Nat.gcd n d : Nat) : Int)) := by
 have hg : 0 < Nat.gcd n d := Nat.gcd_pos_of_pos_right _ hd
 have hm : mx (n : Int) (wrap64 (-(n : Int))) = (n : Int) := by unfold mx wrap64; split <;> omega
 have h1 := Nat.div_le_self n (Nat.gcd n d)
 have h2 := Nat.div_le_self d (Nat.gcd n d)
 unfold culletref04_Made.f culletref04_Divisor.f
 rw [hm, rdiv_eq k d n hk, Option.bind_some, if_neg zq17, tdiv_nat, tdiv_nat]
 rw [wnat (n / Nat.gcd n d) zq17, wnat (d / Nat.gcd n d) zq17]
def ordS (n d m e : Nat) : Int := if n * e < m * d then -1 else if n * e = m * d then 0 else 1
theorem rfloor_eq (n d : Nat) (hd : 0 < d) (hn : n ≤ 1000000000000) : culletref04_floor.f (n : Int) (d : Int) = some ((n / d : Nat) : Int) := by
 have h1 := Nat.div_le_self n d
 unfold culletref04_floor.f
 rw [if_neg zq17, tmod_nat, if_neg zq17, tdiv_nat, wnat (n / d) zq17]
theorem rest_eq (n d : Nat) (hd : 0 < d) (hn : n ≤ 1000000000000) (hd2 : d ≤ 1000000000000) : wrap64 ((n : Int) - wrap64 (((n / d : Nat) : Int) * (d : Int))) = ((n % d : Nat) : Int) := by
 have h1 := Nat.div_mul_le_self n d
 have h2 := Nat.mod_add_div n d
 have h3 : ((n / d : Nat) : Int) * (d : Int) = ((n / d * d : Nat) : Int) := by simp
 rw [Nat.mul_comm d] at h2
 rw [h3, wnat (n / d * d) zq17]
 generalize n / d * d = q at *
 unfold wrap64
 omega
theorem ord_lt {n d m e : Nat} (hd : 0 < d) (he : 0 < e) (h : n / d < m / e) : n * e < m * d := by
 have h1 : n < (n / d + 1) * d := by have := Nat.lt_div_mul_add (a := n) hd; rw [Nat.add_mul]; omega
 have h2 : m / e * e ≤ m := Nat.div_mul_le_self m e
 calc n * e < (n / d + 1) * d * e := Nat.mul_lt_mul_of_pos_right h1 he
  _ ≤ (m / e) * d * e := Nat.mul_le_mul_right _ (Nat.mul_le_mul_right _ h)
  _ = (m / e * e) * d := by rw [Nat.mul_right_comm]
  _ ≤ m * d := Nat.mul_le_mul_right _ h2
theorem ordS_step {n d m e : Nat} (hd : 0 < d) (he : 0 < e) (h : n / d = m / e) : ordS n d m e = ordS e (m % e) d (n % d) := by
 have h1 := Nat.mod_add_div n d
 have h2 := Nat.mod_add_div m e
 generalize n % d = r at *
 generalize m % e = s at *
 rw [h] at h1
 generalize m / e = q at *
 subst h1 h2
 have e1 : (r + d * q) * e = r * e + d * q * e := Nat.add_mul ..
 have e2 : (s + e * q) * d = s * d + d * q * e := by rw [Nat.add_mul, Nat.mul_right_comm e q d, Nat.mul_comm e d, Nat.mul_right_comm d e q]
 have e3 : e * r = r * e := Nat.mul_comm ..
 have e4 : d * s = s * d := Nat.mul_comm ..
 unfold ordS
 rw [e1, e2, e3, e4]
 generalize d * q * e = z
 generalize r * e = x
 generalize s * d = y
 by_cases hxy : x < y
 ·rw [if_pos zq17, if_pos hxy]
 ·rw [if_neg zq17, if_neg hxy]
  by_cases hxe : x = y
  ·rw [if_pos zq17, if_pos hxe]
  ·rw [if_neg zq17, if_neg hxe]
theorem rorder_eq : ∀ (k n d m e : Nat), 0 < d → 0 < e → n ≤ 1000000000000 → d ≤ 1000000000000 → m ≤ 1000000000000 → e ≤ 1000000000000 → 2 * (d + e) < k → culletref04_Order.f k (n : Int) (d : Int) (m : Int) (e : Int) = some (ordS n d m e)
 | 0, n, d, m, e, hd, he, h1, h2, h3, h4, hk => by omega
 | 1, n, d, m, e, hd, he, h1, h2, h3, h4, hk => by omega
 | k + 2, n, d, m, e, hd, he, h1, h2, h3, h4, hk => by
  have hr := Nat.mod_lt n hd
  have hs := Nat.mod_lt m he
  rw [culletref04_Order.f, rfloor_eq n d hd h1, Option.bind_some, rfloor_eq m e he h3, Option.bind_some]
  by_cases hlt : n / d < m / e
  ·rw [if_pos zq17]
   have := ord_lt hd he hlt
   unfold ordS
   rw [if_pos this]
  ·rw [if_neg zq17]
   by_cases hgt : m / e < n / d
   ·rw [if_pos zq17]
    have := ord_lt he hd hgt
    unfold ordS
    rw [if_neg zq17, if_neg zq17]
   ·have heq : n / d = m / e := by omega
    rw [if_neg zq17, rest_eq n d hd h1 h2, rest_eq m e he h3 h4, ordS_step hd he heq]
    by_cases hr0 : n % d = 0
    ·rw [hr0, if_pos (show ((0 : Nat) : Int) = 0 from rfl)]
     by_cases hs0 : m % e = 0
     ·rw [hs0, show (((0 : Nat) : Int) == 0) = true from rfl, culletref04_Order.j0, if_pos rfl]
      unfold ordS
      rw [if_neg zq17, if_pos zq17]
     ·have hb : (((m % e : Nat) : Int) == 0) = false := by rw [beq_eq_false_iff_ne]; omega
      rw [hb, culletref04_Order.j0, if_neg zq56, if_pos (show ((0 : Nat) : Int) = 0 from rfl)]
      unfold ordS
      rw [if_pos (by have := Nat.mul_pos hd (show 0 < m % e by omega); omega)]
    ·rw [if_neg zq17, culletref04_Order.j0, if_neg zq56, if_neg zq17]
     by_cases hs0 : m % e = 0
     ·rw [hs0, if_pos (show ((0 : Nat) : Int) = 0 from rfl)]
      unfold ordS
      have := Nat.mul_pos he (show 0 < n % d by omega)
      rw [if_neg zq17, if_neg zq17]
     ·rw [if_neg zq17, rorder_eq k e (m % e) d (n % d) zq17 zq17 h4 zq17 h2 zq17 zq17, Option.bind_some]
theorem rless_eq (k n d m e : Nat) (hd : 0 < d) (he : 0 < e) (h1 : n ≤ 1000000000000) (h2 : d ≤ 1000000000000) (h3 : m ≤ 1000000000000) (h4 : e ≤ 1000000000000) (hk : 4000000000001 ≤ k) : culletref04_Less.f k (n : Int) (d : Int) (m : Int) (e : Int) = some (decide (n * e < m * d)) := by
 unfold culletref04_Less.f
 rw [rorder_eq k n d m e hd he h1 h2 h3 h4 zq17, Option.bind_some]
 unfold ordS
 by_cases h : n * e < m * d
 ·rw [if_pos h, decide_eq_true h]; rfl
 ·rw [if_neg h, decide_eq_false h]
  by_cases h' : n * e = m * d
  ·rw [if_pos h']; rfl
  ·rw [if_neg h']; rfl
def rawP (every : Int) (st : List S56) (l : List S45) (k entry : Int) : Nat → Nat × Nat
 | 0 => (1, 1)
 | j + 1 => if trU every st l j k entry = 1 then ((rawP every st l k entry j).1 * (clmV st j k).f1.toNat, (rawP every st l k entry j).2 * (clmV st j k).f2.toNat) else rawP every st l k entry j
theorem rawP_bound {every : Int} {fl : List S58} {st : List S56} {l : List S45} (h : Valid every fl st l) (k entry : Int) : ∀ j, j ≤ st.length → (rawP every st l k entry j).1 ≤ 1000 ^ j ∧ (rawP every st l k entry j).2 ≤ 1000 ^ j ∧ 0 < (rawP every st l k entry j).2
 | 0, _ => by simp [rawP]
 | j + 1, hj => by
  obtain ⟨h1, h2, h3⟩ := rawP_bound h k entry j zq17
  have hp : 1000 ^ (j + 1) = 1000 ^ j * 1000 := Nat.pow_succ ..
  unfold rawP
  by_cases ht : trU every st l j k entry = 1
  ·rw [if_pos ht]
   obtain ⟨c1, c2, c3, c4⟩ := h.claim (s := j) (k := k) zq17 zq17 (trU_claim ht)
   refine ⟨?_, ?_, Nat.mul_pos h3 zq17⟩
   ·rw [hp]
    exact Nat.mul_le_mul h1 zq17
   ·rw [hp]
    exact Nat.mul_le_mul h2 zq17
  ·rw [if_neg ht, hp]
   omega
def low (p : Nat × Nat) : Nat × Nat := (p.1 / Nat.gcd p.1 p.2, p.2 / Nat.gcd p.1 p.2)
theorem low_mul (c a b : Nat) (hc : 0 < c) : low (c * a, c * b) = low (a, b) := by
 unfold low
 simp only [Nat.gcd_mul_left]
 rw [Nat.mul_div_mul_left _ _ hc, Nat.mul_div_mul_left _ _ hc]
theorem low_low (a b x y : Nat) (hb : 0 < b) : low ((low (a, b)).1 * x, (low (a, b)).2 * y) = low (a * x, b * y) := by
 have hg : 0 < Nat.gcd a b := Nat.gcd_pos_of_pos_right _ hb
 have e1 : a = Nat.gcd a b * (low (a, b)).1 := (Nat.mul_div_cancel' (Nat.gcd_dvd_left a b)).symm
 have e2 : b = Nat.gcd a b * (low (a, b)).2 := (Nat.mul_div_cancel' (Nat.gcd_dvd_right a b)).symm
 have e3 : a * x = Nat.gcd a b * ((low (a, b)).1 * x) := by rw [← Nat.mul_assoc, ← e1]
 have e4 : b * y = Nat.gcd a b * ((low (a, b)).2 * y) := by rw [← Nat.mul_assoc, ← e2]
 rw [e3, e4, low_mul _ _ _ hg]
theorem shareP_low {every : Int} {fl : List S58} {st : List S56} {l : List S45} (h : Valid every fl st l) (k entry : Int) : ∀ j, j ≤ st.length → shareP every st l k entry j = low (rawP every st l k entry j)
 | 0, _ => by simp [shareP, rawP, low]
 | j + 1, hj => by
  have ih := shareP_low h k entry j zq17
  have hb := (rawP_bound h k entry j zq17).2.2
  unfold shareP rawP
  by_cases ht : trU every st l j k entry = 1
  ·simp only [ht, if_true, ih]
   exact low_low _ _ _ _ hb
  ·simp only [ht, if_false, ih]
def worse (every : Int) (st : List S56) (l : List S45) (k : Int) (p : Nat × Nat) (i : Int) : Nat × Nat :=
 if p.1 * (shareP every st l k i st.length).2 < (shareP every st l k i st.length).1 * p.2 then shareP every st l k i st.length else p
theorem missP_fold (every : Int) (fl : List S58) (st : List S56) (l : List S45) (k : Int) : ∀ n, missP every fl st l k n = (((posP every fl st l 2 n).foldl (worse every st l k) (0, 1)).1, ((posP every fl st l 2 n).foldl (worse every st l k) (0, 1)).2, (posP every fl st l 2 n).length)
 | 0 => rfl
 | n + 1 => by
  have ih := missP_fold every fl st l k n
  unfold missP posP
  by_cases hv : vdS every fl st l n = 2
  ·simp only [hv, if_true, ih, List.foldl_append, List.foldl_cons, List.foldl_nil, List.length_append, List.length_cons, List.length_nil]
   unfold worse
   split <;> rfl
  ·simp only [hv, if_false, ih]
theorem fold_bound {every : Int} {fl : List S58} {st : List S56} {l : List S45} (h : Valid every fl st l) (k : Int) : ∀ (L : List Int) (p : Nat × Nat), p.1 ≤ 1000000000000 ∧ p.2 ≤ 1000000000000 ∧ 0 < p.2 →
  (L.foldl (worse every st l k) p).1 ≤ 1000000000000 ∧ (L.foldl (worse every st l k) p).2 ≤ 1000000000000 ∧ 0 < (L.foldl (worse every st l k) p).2
 | [], p, hp => hp
 | x :: L, p, hp => by
  refine fold_bound h k L _ ?_
  obtain ⟨s1, s2, s3⟩ := shareP_bound h k x st.length (Nat.le_refl _)
  have hq := pow4 h.n2
  unfold worse
  split
  ·omega
  ·exact hp
theorem rshare_l1 {every : Int} {fl : List S58} {st : List S56} {l : List S45} (hv : Valid every fl st l) (c : Int) (L : List Int) (i : Nat) (hi : i < L.length) (wn wd : Nat) (R : Option (Int × Int × Int × Int)) (K : Nat)
  (hw : wn ≤ 1000000000000 ∧ wd ≤ 1000000000000 ∧ 0 < wd)
  (hR : ∀ k, K ≤ k → culletref07_Missed.l0 k l c L (wrap64 ((i : Int) + 1)) every fl st (worse every st l c (wn, wd) (rd L i)).1 (worse every st l c (wn, wd) (rd L i)).2 = R) (hK : 4000000000002 ≤ K) :
  ∀ r j k, j + r = st.length → r + K < k → culletref07_Missed.l1 k l c L (i : Int) ((rawP every st l c (rd L i) j).1 : Nat) ((rawP every st l c (rd L i) j).2 : Nat) (j : Int) every fl st wn wd = R
 | 0, j, k, h, hk => by
  obtain ⟨k, rfl⟩ : ∃ m, k = m + 1 := ⟨k - 1, zq17⟩
  have hj : j = st.length := by omega
  subst hj
  obtain ⟨b1, b2, b3⟩ := rawP_bound hv c (rd L i) st.length (Nat.le_refl _)
  have hp := pow4 hv.n2
  obtain ⟨s1, s2, s3⟩ := shareP_bound hv c (rd L i) st.length (Nat.le_refl _)
  have hl := shareP_low hv c (rd L i) st.length (Nat.le_refl _)
  rw [culletref07_Missed.l1, if_neg zq17, rmade_eq _ _ k b3 zq17 zq17 zq17, Option.bind_some]
  have e1 : ((rawP every st l c (rd L i) st.length).1 / Nat.gcd (rawP every st l c (rd L i) st.length).1 (rawP every st l c (rd L i) st.length).2) = (shareP every st l c (rd L i) st.length).1 := by rw [hl]; rfl
  have e2 : ((rawP every st l c (rd L i) st.length).2 / Nat.gcd (rawP every st l c (rd L i) st.length).1 (rawP every st l c (rd L i) st.length).2) = (shareP every st l c (rd L i) st.length).2 := by rw [hl]; rfl
  simp only [e1, e2]
  rw [rless_eq k wn wd _ _ hw.2.2 s3 hw.1 hw.2.1 zq17 zq17 zq17, Option.bind_some]
  have hR' := hR k zq17
  unfold worse at hR'
  by_cases hlt : wn * (shareP every st l c (rd L i) st.length).2 < (shareP every st l c (rd L i) st.length).1 * wd
  ·rw [if_pos (by simpa using hlt)]
   rw [if_pos (by simpa using hlt)] at hR'
   exact hR'
  ·rw [if_neg (by simpa using hlt)]
   rw [if_neg (by simpa using hlt)] at hR'
   exact hR'
 | r + 1, j, k, h, hk => by
  obtain ⟨k, rfl⟩ : ∃ m, k = m + 1 := ⟨k - 1, zq17⟩
  have ih := rshare_l1 hv c L i hi wn wd R K hw hR hK r (j + 1) k zq17 zq17
  have hn2 := hv.n2
  obtain ⟨b1, b2, b3⟩ := rawP_bound hv c (rd L i) j zq17
  have hp : 1000 ^ j ≤ 1000000000000 := pow4 zq17
  have hp3 : 1000 ^ j ≤ 1000000000 := by
   have : 1000 ^ j ≤ 1000 ^ 3 := Nat.pow_le_pow_right zq56 zq17
   simpa using this
  rw [culletref07_Missed.l1, if_pos zq17, if_pos zq17, if_pos zq17, rtrust_eq hv hv.claims (j : Int) c _ zq17 zq17 k zq17, Option.bind_some, wsucc j zq17]
  have hs : rawP every st l c (rd L i) (j + 1) = if trU every st l j c (rd L i) = 1 then ((rawP every st l c (rd L i) j).1 * (clmV st j c).f1.toNat, (rawP every st l c (rd L i) j).2 * (clmV st j c).f2.toNat) else rawP every st l c (rd L i) j := rfl
  rw [hs] at ih
  by_cases ht : trU every st l (j : Int) c (rd L i) = 1
  ·obtain ⟨c1, c2, c3, c4⟩ := hv.claim (s := j) (k := c) zq17 zq17 (trU_claim ht)
   rw [if_pos ht] at ih
   rw [if_pos ht, rclaim_eq every fl st (j : Int) c zq17 zq17 (by rw [show ((j : Int)) = ((j : Nat) : Int) from rfl]; exact hv.claims j zq17) k zq17, Option.bind_some]
   unfold clmR
   rw [if_pos (trU_claim ht)]
   have f1 : ((clmV st j c).f1.toNat : Int) = (clmV st j c).f1 := by omega
   have f2 : ((clmV st j c).f2.toNat : Int) = (clmV st j c).f2 := by omega
   have m1 : (rawP every st l c (rd L i) j).1 * (clmV st j c).f1.toNat ≤ 1000000000 * 1000 := Nat.mul_le_mul zq17 zq17
   have m2 : (rawP every st l c (rd L i) j).2 * (clmV st j c).f2.toNat ≤ 1000000000 * 1000 := Nat.mul_le_mul zq17 zq17
   have g1 : wrap64 (((rawP every st l c (rd L i) j).1 : Int) * (clmV st j c).f1) = (((rawP every st l c (rd L i) j).1 * (clmV st j c).f1.toNat : Nat) : Int) := by
    rw [show (((rawP every st l c (rd L i) j).1 : Int) * (clmV st j c).f1) = (((rawP every st l c (rd L i) j).1 * (clmV st j c).f1.toNat : Nat) : Int) from by rw [Int.natCast_mul, f1]]
    exact wnat _ (Nat.le_trans m1 zq56)
   have g2 : wrap64 (((rawP every st l c (rd L i) j).2 : Int) * (clmV st j c).f2) = (((rawP every st l c (rd L i) j).2 * (clmV st j c).f2.toNat : Nat) : Int) := by
    rw [show (((rawP every st l c (rd L i) j).2 : Int) * (clmV st j c).f2) = (((rawP every st l c (rd L i) j).2 * (clmV st j c).f2.toNat : Nat) : Int) from by rw [Int.natCast_mul, f2]]
    exact wnat _ (Nat.le_trans m2 zq56)
   simp only [g1, g2]
   exact ih
  ·rw [if_neg ht] at ih
   rw [if_neg ht]
   exact ih
theorem rmiss_l0 {every : Int} {fl : List S58} {st : List S56} {l : List S45} (hv : Valid every fl st l) (c : Int) (L : List Int) (hL : L.length ≤ 512) : ∀ r i k, i + r = L.length → 10 * r + 4000000000100 < k →
  culletref07_Missed.l0 k l c L (i : Int) every fl st (((L.take i).foldl (worse every st l c) (0, 1)).1 : Nat) (((L.take i).foldl (worse every st l c) (0, 1)).2 : Nat) = some ((((L.foldl (worse every st l c) (0, 1)).1 : Nat) : Int), (((L.foldl (worse every st l c) (0, 1)).2 : Nat) : Int), (L.length : Int), 0)
 | 0, i, k, h, hk => by
  obtain ⟨k, rfl⟩ : ∃ m, k = m + 1 := ⟨k - 1, zq17⟩
  have hi : i = L.length := by omega
  subst hi
  rw [culletref07_Missed.l0, if_neg zq17, List.take_length]
 | r + 1, i, k, h, hk => by
  obtain ⟨k, rfl⟩ : ∃ m, k = m + 1 := ⟨k - 1, zq17⟩
  have hn2 := hv.n2
  have hw := fold_bound hv c (L.take i) (0, 1) zq63
  have hx : L.take (i + 1) = L.take i ++ [rd L i] := by
   rw [List.take_succ_eq_append_getElem zq17]
   unfold rd
   rw [Int.toNat_natCast, List.getD_eq_getElem?_getD, List.getElem?_eq_getElem zq17, Option.getD_some]
  rw [culletref07_Missed.l0, if_pos zq17]
  refine rshare_l1 hv c L i zq17 _ _ _ (k - 5) hw (fun k' hk' => ?_) zq17 st.length 0 k zq17 zq17
  have ih := rmiss_l0 hv c L hL r (i + 1) k' zq17 zq17
  rw [hx, List.foldl_append, List.foldl_cons, List.foldl_nil] at ih
  rw [wsucc i zq17]
  exact ih
theorem rMissed_eq (a0 : Int) (fl : List S58) (st : List S56) (l : List S45) (c : Int) (k : Nat) (hk : 4000000010000 ≤ k) : culletref07_Missed.f k a0 fl st l c = some (missF a0 fl st l c) := by
 obtain ⟨k, rfl⟩ : ∃ m, k = m + 1 + 1 := ⟨k - 2, zq17⟩
 unfold culletref07_Missed.f missF
 rw [rLog_eq a0 fl st l _ zq17, Option.bind_some]
 by_cases h0 : logS a0 fl st l = 0
 ·rw [if_pos h0, if_neg (show ¬ (logS a0 fl st l ≠ 0) from fun h => h h0), h0]
  have hv := logS_valid h0
  have hbad : culletref07_Missed.j0 (k + 1 + 1) l c 0 true a0 fl st = some (0, 0, 0, 7) := by
   rw [culletref07_Missed.j0, if_pos rfl, culletref07_Missed.j1, if_neg zq56]
  by_cases h1 : c < 0
  ·rw [if_pos h1, hbad, if_pos (show win c 0 ((fl.length : Int) - 1) = false from by unfold win; rw [show decide (0 ≤ c) = false from decide_eq_false zq17]; rfl)]
  ·rw [if_neg h1]
   by_cases h2 : c ≥ fl.length
   ·rw [decide_eq_true h2, hbad, if_pos (show win c 0 ((fl.length : Int) - 1) = false from by unfold win; rw [show decide (c ≤ (fl.length : Int) - 1) = false from decide_eq_false zq17, Bool.and_false])]
   ·have hlen := hv.len
    have hpl := posP_len a0 fl st l 2 l.length
    rw [decide_eq_false h2, if_neg (show ¬ (win c 0 ((fl.length : Int) - 1) = false) from by unfold win; rw [show decide (0 ≤ c) = true from decide_eq_true zq17, show decide (c ≤ (fl.length : Int) - 1) = true from decide_eq_true zq17]; decide),
     culletref07_Missed.j0, if_neg zq56, culletref07_Missed.j1, if_pos rfl, rof_eq hv 2 zq56 k zq17, Option.bind_some]
    have := rmiss_l0 hv c (posP a0 fl st l 2 l.length) zq17 (posP a0 fl st l 2 l.length).length 0 k zq17 zq17
    rw [missP_fold]
    exact this
 ·rw [if_neg h0, if_pos h0, culletref07_Missed.j0, if_neg zq56, culletref07_Missed.j1, if_neg h0]
end Go.Proofs.Ytbpebehbfpgjbaa.P
end
