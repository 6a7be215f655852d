/- Texts of the proof, joined: what they prove stands at each theorem. -/
import Derived.Deep.RegionLaw
import Derived.Sort.OwnSortedInts
import Derived.Maps.RangeRun
import Derived.Test.YtbpebehbfpgjbaaCsb
import Derived.Test.YtbpebehbfpgjbaaCsc
import Derived.Test.YtbpebehbfpgjbaaCsf
section
namespace Go.Proofs.Ytbpebehbfpgjbaa.P
open Go.RowKit Go.Proofs.YtbpebehbfpgjbaaW.PrintWords Go.Proofs.YtbpebehbfpgjbaaW.PrintLast Go.Proofs.YtbpebehbfpgjbaaW.PrintMore
set_option linter.unusedVariables false
set_option linter.unusedSimpArgs false
set_option maxHeartbeats 4000000 in
set_option maxRecDepth 100000 in
theorem inspect_lowest.calls (n d : Nat) (w : World) (hd : 0 < d) (hn : n ≤ 1000000000000) (hd2 : d ≤ 1000000000000) :
  Calls Try.prog 39 #[.int .i64 (n : Int), .int .i64 (d : Int)] w fun e w' => e = .returned (.agg #[.int .i64 ((n / Nat.gcd n d : Nat) : Int), .int .i64 ((d / Nat.gcd n d : Nat) : Int)]) ∧ Below w.heap.size w w' := by
 have HX := Aside0.mk (blk_new w (.cells #[.int .i64 0, .int .i64 0] 35))
 have HB := Aside0.mk ((Below.refl w.heap.size w).alloc (Nat.le_refl _) (.cells #[.int .i64 0, .int .i64 0] 35))
 have HD := Aside0.mk hd
 clear hd
 go_enter Try.func39, Try.ntmps39
 go_wp2
 go_loopg [5, 6] d (fun gg s5 s6 wr => ∃ a b : Nat, s5 = .int .i64 (a : Int) ∧ s6 = .int .i64 (b : Int) ∧ Aside0 (b ≤ gg ∧ a ≤ 1000000000000 ∧ b ≤ 1000000000000 ∧ Nat.gcd a b = Nat.gcd n d ∧ (0 < a ∨ 0 < b)) ∧ Aside0 (Below w.heap.size w wr) ∧
  Aside0 (wr.heap[w.heap.size]? = some (.cells #[.int .i64 0, .int .i64 0] 35 (0, 0))))
 case atStart => exact ⟨n, d, rfl, rfl, ⟨zq16, hn, hd2, rfl, .inr HD.out⟩, HB, HX⟩
 case round =>
  obtain ⟨a, b, rfl, rfl, hi, HB, HX⟩ := hrel
  by_cases hb : b = 0
  ·subst hb
   have hg : a = Nat.gcd n d := by have := hi.out.2.2.2.1; rwa [Nat.gcd_zero_right] at this
   have ha : 0 < a := by have := hi.out.2.2.2.2; omega
   have hq1 : Int.tdiv (n : Int) (a : Int) = ((n / a : Nat) : Int) := by rw [Int.tdiv_eq_ediv_of_nonneg zq16]; rfl
   have hq2 : Int.tdiv (d : Int) (a : Int) = ((d / a : Nat) : Int) := by rw [Int.tdiv_eq_ediv_of_nonneg zq16]; rfl
   have hb1 : n / a ≤ 1000000000000 := Nat.le_trans (Nat.div_le_self _ _) hn
   have hb2 : d / a ≤ 1000000000000 := Nat.le_trans (Nat.div_le_self _ _) hd2
   have HE := Aside0.mk (show n / Nat.gcd n d = n / a ∧ d / Nat.gcd n d = d / a by rw [← hg]; exact ⟨rfl, rfl⟩)
   generalize n / a = x at hq1 hb1 HE
   generalize d / a = y at hq2 hb2 HE
   have hw1 : IntKind.i64.wrap (x : Int) = (x : Int) := Go.IntWalk.i64_in _ zq16
   have hw2 : IntKind.i64.wrap (y : Int) = (y : Int) := Go.IntWalk.i64_in _ zq16
   have x0 := (blk_cell HX.out 0).trans (rfl : _ = some (Value.int .i64 0))
   have x1 := (blk_cell HX.out 1).trans (rfl : _ = some (Value.int .i64 0))
   have f0 := blk_frozen HX.out 0
   have f1 := blk_frozen HX.out 1
   have ha0 : ((a : Int) == 0) = false := by simp; omega
   have ha1 : (a : Int) ≠ 0 := by omega
   clear hg hn hd2
   go_wp2
   go_region
   go_wp2
   have e1 := blk_put (cs' := #[.int .i64 (x : Int), .int .i64 0]) HX.out 0 (.int .i64 (x : Int)) rfl
   have e2 := blk_put (cs' := #[.int .i64 (x : Int), .int .i64 (y : Int)]) e1 1 (.int .i64 (y : Int)) rfl
   refine bodyPost_ret (results_cell_row rfl _ _ w.heap.size 35 #[.int .i64 (x : Int), .int .i64 (y : Int)] (0, 0) _ rfl (blk_drew e2) Try.underlying35 rfl zq23) rfl ⟨by rw [HE.out.1, HE.out.2], ?_⟩
   exact ((HB.out.setCell (p := ⟨w.heap.size, 0, none⟩) zq51 _).setCell (p := ⟨w.heap.size, 1, none⟩) zq51 _).drew
  ·have hbb : ((b : Int) == 0) = false := by simp; omega
   have hb1 : (b : Int) ≠ 0 := by omega
   have hr : Int.tmod (a : Int) (b : Int) = ((a % b : Nat) : Int) := by rw [Int.tmod_eq_emod_of_nonneg zq16]; rfl
   have hlt : a % b < b := Nat.mod_lt _ zq16
   have hw : IntKind.i64.wrap ((a % b : Nat) : Int) = ((a % b : Nat) : Int) := Go.IntWalk.i64_in _ zq67
   have hg : Nat.gcd b (a % b) = Nat.gcd n d := by rw [← hi.out.2.2.2.1, Nat.gcd_comm b, ← Nat.gcd_rec, Nat.gcd_comm]
   generalize a % b = c at *
   go_wp2
   go_quiet (fail)
   go_wp2
   go_roundg c
   case measure => have := hi.out; omega
   case rel => exact ⟨b, c, rfl, rfl, ⟨Nat.le_refl _, zq67, zq67, hg, .inl zq16⟩, ⟨pw_below_drewN HB.out _⟩, ⟨blk_drewN HX.out _⟩⟩
set_option maxHeartbeats 4000000 in
set_option maxRecDepth 100000 in
theorem inspect_less.calls (n d m e : Nat) (w : World) (hn : n ≤ 1000000000000) (hd : d ≤ 1000000000000) (hm : m ≤ 1000000000000) (he : e ≤ 1000000000000) :
  Calls Try.prog 40 #[.agg #[.int .i64 (n : Int), .int .i64 (d : Int)], .agg #[.int .i64 (m : Int), .int .i64 (e : Int)]] w fun e_ w' => e_ = .returned (.bool (decide (n * e < m * d))) ∧ Below w.heap.size w w' := by
 have c1 := Try.bits_Mul64 n e zq16 zq16
 have c2 := Try.bits_Mul64 m d zq16 zq16
 have HB := Aside0.mk (((Below.refl w.heap.size w).alloc (Nat.le_refl _) (.cells #[.int .i64 (n : Int), .int .i64 (d : Int)] 35)).alloc zq51 (.cells #[.int .i64 (m : Int), .int .i64 (e : Int)] 35))
 have hx1 : n * e / 18446744073709551616 * 18446744073709551616 + n * e % 18446744073709551616 = n * e := Nat.div_add_mod' _ _
 have hx2 : m * d / 18446744073709551616 * 18446744073709551616 + m * d % 18446744073709551616 = m * d := Nat.div_add_mod' _ _
 have hl1 : n * e % 18446744073709551616 < 18446744073709551616 := Nat.mod_lt _ zq49
 have hl2 : m * d % 18446744073709551616 < 18446744073709551616 := Nat.mod_lt _ zq49
 generalize n * e / 18446744073709551616 = a1 at c1 hx1
 generalize n * e % 18446744073709551616 = b1 at c1 hx1 hl1
 generalize m * d / 18446744073709551616 = a2 at c2 hx2
 generalize m * d % 18446744073709551616 = b2 at c2 hx2 hl2
 rw [← hx1, ← hx2]
 have k1 : (convert 3 114 (.int .i64 (n : Int))) = (convert 3 114 (.int .i64 (n : Int))) := rfl
 have hans : decide (a1 * 18446744073709551616 + b1 < a2 * 18446744073709551616 + b2) = (decide (a1 < a2) || (decide (a1 = a2) && decide (b1 < b2))) := by
  by_cases h1 : a1 < a2
  ·simp [h1]; omega
  ·by_cases h2 : a1 = a2
   ·subst h2; simp
   ·simp [h1, h2]; omega
 rw [hans]
 clear hans hx1 hx2 hl1 hl2
 go_enter Try.func40, Try.ntmps40
 go_wp2_with (first | (go_at_call 65; (with_reducible refine (c1 _).mono ?_); rintro e w1 ⟨rfl, rfl⟩) | (go_at_call 65; (with_reducible refine (c2 _).mono ?_); rintro e w1 ⟨rfl, rfl⟩))
 all_goals (go_ret; refine ⟨?_, HB.out⟩; by_cases h1 : a1 < a2 <;> by_cases h2 : a1 = a2 <;> by_cases h3 : b1 < b2 <;> simp_all <;> omega)
end Go.Proofs.Ytbpebehbfpgjbaa.P
end
section
namespace Go.Proofs.Ytbpebehbfpgjbaa.P
open Go.RowKit Go.Proofs.YtbpebehbfpgjbaaW.PrintWords Go.Proofs.YtbpebehbfpgjbaaW.PrintLast Go.Proofs.YtbpebehbfpgjbaaW.PrintMore
set_option linter.unusedVariables false
set_option linter.unusedSimpArgs false
open GM
def clmV (st : List S56) (s k : Int) : S68 := rd_T68 (rd_T56 st s).f1 (idxOf (fun x : S68 => x.f0 == k) (rd_T56 st s).f1)
theorem claim_val (a0 : Int) (fl : List S58) (st : List S56) (s k : Int) (h0 : 0 ≤ s) (h1 : s < st.length) (hc : clmB st s k = true) : inspect_claim.f a0 fl st s k = some ((clmV st s k).f0, (clmV st s k).f1, (clmV st s k).f2, true) := by
 unfold inspect_claim.f IdxClaim.f clmV
 unfold clmB at hc
 rw [if_pos h0, if_pos h1]
 simp only [Option.bind_some]
 have h2 := idxOf_any (fun x : S68 => x.f0 == k) (rd_T56 st s).f1
 have h3 := idxOf_lo (fun x : S68 => x.f0 == k) (rd_T56 st s).f1
 rw [hc] at h2
 have h4 := of_decide_eq_true h2
 rw [if_neg zq16, if_pos h4, if_pos h3.2]
theorem trU_claim {every : Int} {st : List S56} {l : List S45} {s k entry : Int} (h : trU every st l s k entry = 1) : clmB st s k = true := by
 unfold trU trustS at h
 cases hc : clmB st s k
 ·rw [hc, if_pos rfl] at h
  exact absurd h zq49
 ·rfl
theorem Valid.claim {every : Int} {fl : List S58} {st : List S56} {l : List S45} (h : Valid every fl st l) {s k : Int} (h0 : 0 ≤ s) (h1 : s < st.length) (hc : clmB st s k = true) : 0 ≤ (clmV st s k).f1 ∧ (clmV st s k).f1 ≤ (clmV st s k).f2 ∧ 1 ≤ (clmV st s k).f2 ∧ (clmV st s k).f2 ≤ 1000 := by
 have hs := h.se s.toNat zq16
 have hcast : ((s.toNat : Nat) : Int) = s := by omega
 unfold standErr at hs
 rw [hcast] at hs
 split at hs
 ·exact absurd hs zq49
 ·split at hs
  ·exact absurd hs zq49
  ·unfold claimsS at hs
   split at hs
   ·exact absurd hs zq49
   ·have h2 := idxOf_any (fun x : S68 => x.f0 == k) (rd_T56 st s).f1
    have h3 := idxOf_lo (fun x : S68 => x.f0 == k) (rd_T56 st s).f1
    unfold clmB at hc
    rw [hc] at h2
    have h4 := of_decide_eq_true h2
    have h5 := firstErr_zero _ _ _ hs (idxOf (fun x : S68 => x.f0 == k) (rd_T56 st s).f1).toNat zq16 zq16
    unfold claimErr at h5
    rw [show (((idxOf (fun x : S68 => x.f0 == k) (rd_T56 st s).f1).toNat : Nat) : Int) = idxOf (fun x : S68 => x.f0 == k) (rd_T56 st s).f1 from by omega] at h5
    unfold clmV
    split at h5
    ·exact absurd h5 zq49
    ·split at h5
     ·exact absurd h5 zq49
     ·split at h5
      ·exact absurd h5 zq49
      ·rename_i h6
       split at h5
       ·exact absurd h5 zq49
       ·rename_i h7
        have h6 := win_true (by simpa using h6)
        have h7 := win_true (by simpa using h7)
        omega
def shareP (every : Int) (st : List S56) (l : List S45) (k entry : Int) : Nat → Nat × Nat
 | 0 => (1, 1)
 | j + 1 =>
  let p := shareP every st l k entry j
  if trU every st l j k entry = 1 then
   let a := p.1 * (clmV st j k).f1.toNat
   let b := p.2 * (clmV st j k).f2.toNat
   (a / Nat.gcd a b, b / Nat.gcd a b)
  else p
theorem shareP_bound {every : Int} {fl : List S58} {st : List S56} {l : List S45} (h : Valid every fl st l) (k entry : Int) : ∀ j, j ≤ st.length → (shareP every st l k entry j).1 ≤ 1000 ^ j ∧ (shareP every st l k entry j).2 ≤ 1000 ^ j ∧ 0 < (shareP every st l k entry j).2
 | 0, _ => by simp [shareP]
 | j + 1, hj => by
  obtain ⟨h1, h2, h3⟩ := shareP_bound h k entry j zq16
  have hp : 1000 ^ (j + 1) = 1000 ^ j * 1000 := Nat.pow_succ ..
  unfold shareP
  by_cases ht : trU every st l j k entry = 1
  ·simp only [ht, if_true]
   obtain ⟨c1, c2, c3, c4⟩ := h.claim (s := j) (k := k) zq16 zq16 (trU_claim ht)
   have hb : 0 < (shareP every st l k entry j).2 * (clmV st j k).f2.toNat := Nat.mul_pos h3 zq16
   refine ⟨?_, ?_, Nat.div_pos (Nat.gcd_le_right _ hb) (Nat.gcd_pos_of_pos_right _ hb)⟩
   ·refine Nat.le_trans (Nat.div_le_self _ _) ?_
    rw [hp]
    exact Nat.mul_le_mul h1 zq16
   ·refine Nat.le_trans (Nat.div_le_self _ _) ?_
    rw [hp]
    exact Nat.mul_le_mul h2 zq16
  ·simp only [ht, if_false]
   rw [hp]
   omega
def missP (every : Int) (fl : List S58) (st : List S56) (l : List S45) (k : Int) : Nat → Nat × Nat × Nat
 | 0 => (0, 1, 0)
 | n + 1 =>
  let p := missP every fl st l k n
  if vdS every fl st l n = 2 then
   let s := shareP every st l k n st.length
   if p.1 * s.2 < s.1 * p.2.1 then (s.1, s.2, p.2.2 + 1) else (p.1, p.2.1, p.2.2 + 1)
  else p
theorem pow4 {j : Nat} (h : j ≤ 4) : 1000 ^ j ≤ 1000000000000 := by
 have : 1000 ^ j ≤ 1000 ^ 4 := Nat.pow_le_pow_right zq49 h
 simpa using this
theorem missP_bound {every : Int} {fl : List S58} {st : List S56} {l : List S45} (h : Valid every fl st l) (k : Int) : ∀ n, (missP every fl st l k n).1 ≤ 1000000000000 ∧ (missP every fl st l k n).2.1 ≤ 1000000000000 ∧ 0 < (missP every fl st l k n).2.1 ∧ (missP every fl st l k n).2.2 ≤ n
 | 0 => by simp [missP]
 | n + 1 => by
  obtain ⟨h1, h2, h3, h4⟩ := missP_bound h k n
  obtain ⟨s1, s2, s3⟩ := shareP_bound h k n st.length (Nat.le_refl _)
  have hp := pow4 h.n2
  unfold missP
  by_cases hv : vdS every fl st l n = 2
  ·simp only [hv, if_true]
   split
   ·simp only; omega
   ·simp only; omega
  ·simp only [hv, if_false]
   omega
def missF (a0_0 : Int) (l0_1 : List S58) (l0_2 : List S56) (l1 : List S45) (a2 : Int) : Int × Int × Int × Int :=
 if logS a0_0 l0_1 l0_2 l1 ≠ 0 then (0, 0, 0, logS a0_0 l0_1 l0_2 l1) else if win a2 0 ((l0_1.length : Int) - 1) = false then (0, 0, 0, 7) else
 (((missP a0_0 l0_1 l0_2 l1 a2 l1.length).1 : Nat), ((missP a0_0 l0_1 l0_2 l1 a2 l1.length).2.1 : Nat), ((missP a0_0 l0_1 l0_2 l1 a2 l1.length).2.2 : Nat), 0)
def inspect_Missed.f (a0_0 : Int) (l0_1 : List S58) (l0_2 : List S56) (l1 : List S45) (a2 : Int) : Option (Int × Int × Int × Int) := some (missF a0_0 l0_1 l0_2 l1 a2)
theorem DeskIs.setCell {W : World} {b : Nat} {l : List S45} (h : DeskIs W b l) {g : Nat} {cs : Array Value} {t : TypeId} {fr : Nat × Nat} (hg : W.heap[g]? = some (.cells cs t fr)) (ht : t ≠ 3) (j : Nat) (v : Value) : DeskIs (W.setCell ⟨g, j, none⟩ v) b l := by
 obtain ⟨base, es, clock, h1, h2, h3, h4, h5⟩ := h
 have hbg : b ≠ g := fun e => by rw [← e, h1] at hg; cases hg
 refine ⟨base, es, clock, (Below.heap_setCell W ⟨g, j, none⟩ v b hbg).trans h1, h2, fun x hx => ?_, h4, h5⟩
 obtain ⟨a1, a2, a3⟩ := h3 x hx
 exact ⟨a1, a2, own_move a3 (fun k hk => Below.heap_setCell W ⟨g, j, none⟩ v k (fun e => own_ne_cells a3 hg ht (by rw [hk, e])))⟩
def isCh (l : List S45) (s c : Int) (n : Nat) : Prop := (l.getD n z45).f1 = 2 ∧ (l.getD n z45).f4 = s ∧ (l.getD n z45).f5 = c
instance (l : List S45) (s c : Int) (n : Nat) : Decidable (isCh l s c n) := by unfold isCh; infer_instance
def befN (l : List S45) (s c e : Int) : Nat → Int
 | 0 => -1
 | n + 1 => if isCh l s c n then (if (n : Int) < e then (n : Int) else befN l s c e n) else befN l s c e n
def behN (l : List S45) (s c e : Int) : Nat → Int
 | 0 => -1
 | n + 1 => if isCh l s c n then (if (n : Int) < e then behN l s c e n else if behN l s c e n < 0 then (n : Int) else behN l s c e n) else behN l s c e n
theorem chP_succ (l : List S45) (s c : Int) (n : Nat) : chP l s c (n + 1) = if isCh l s c n then chP l s c n ++ [(n : Int)] else chP l s c n := by
 show (if (l.getD n z45).f1 = 2 ∧ (l.getD n z45).f4 = s ∧ (l.getD n z45).f5 = c then chP l s c n ++ [(n : Int)] else chP l s c n) = _
 by_cases h : isCh l s c n
 ·rw [if_pos h]; exact if_pos h
 ·rw [if_neg h]; exact if_neg h
theorem nxt_app (L : List Int) (x : Int) (m : Int) (h : m < L.length) : nxt (L ++ [x]) m = nxt L m := by
 unfold nxt rd
 by_cases h0 : m < 0
 ·rw [if_pos (.inl h0), if_pos (.inl h0)]
 ·rw [if_neg (by simp; omega), if_neg zq16, List.getD_eq_getElem?_getD, List.getElem?_append_left zq16, ← List.getD_eq_getElem?_getD]
theorem nxt_end (L : List Int) (m : Int) (h : m = L.length) : nxt L m = -1 := by
 unfold nxt
 rw [if_pos zq16]
theorem nxt_last (L : List Int) (x m : Int) (h : m = L.length) : nxt (L ++ [x]) m = x := by
 unfold nxt rd
 rw [if_neg (by simp; omega), h, Int.toNat_natCast, List.getD_eq_getElem?_getD, List.getElem?_append_right (Nat.le_refl _)]
 simp
theorem nxt_mem (L : List Int) (m : Int) (h0 : 0 ≤ m) (h1 : m < L.length) : nxt L m ∈ L := by
 unfold nxt rd
 rw [if_neg zq16, List.getD_eq_getElem?_getD, List.getElem?_eq_getElem zq16]
 simp
theorem scan (l : List S45) (s c e : Int) : ∀ n, befN l s c e n = nxt (chP l s c n) ((chP l s c n).countP (· < e) + -1) ∧ behN l s c e n = nxt (chP l s c n) ((chP l s c n).countP (· < e) + 0)
 | 0 => by simp [befN, behN, chP, nxt]
 | n + 1 => by
  obtain ⟨h1, h2⟩ := scan l s c e n
  have hm := chP_mem l s c n
  have hle : (chP l s c n).countP (· < e) ≤ (chP l s c n).length := List.countP_le_length
  rw [chP_succ]
  unfold befN behN
  by_cases hc : isCh l s c n
  ·rw [if_pos hc, if_pos hc, if_pos hc]
   by_cases he : (n : Int) < e
   ·have hall : (chP l s c n).countP (· < e) = (chP l s c n).length := by
     rw [List.countP_eq_length]
     intro x hx
     have := hm x hx
     simp; omega
    rw [if_pos he, if_pos he, List.countP_append, hall]
    have h3 : List.countP (· < e) [(n : Int)] = 1 := by simp [he]
    rw [h3]
    refine ⟨(nxt_last _ _ _ zq16).symm, ?_⟩
    rw [h2, hall, nxt_end _ _ zq51, nxt_end _ _ zq51]
   ·rw [if_neg he, if_neg he, List.countP_append]
    have h3 : List.countP (· < e) [(n : Int)] = 0 := by simp; omega
    rw [h3, Nat.add_zero, nxt_app _ _ _ zq16, ← h1]
    refine ⟨rfl, ?_⟩
    by_cases hlt : (chP l s c n).countP (· < e) < (chP l s c n).length
    ·rw [nxt_app _ _ _ zq16, ← h2, if_neg]
     have := hm _ (nxt_mem (chP l s c n) ((chP l s c n).countP (· < e) + 0) zq16 zq16)
     rw [h2]
     omega
    ·rw [nxt_last _ _ _ zq16, if_pos]
     rw [h2, nxt_end _ _ zq16]
     decide
  ·rw [if_neg hc, if_neg hc, if_neg hc]
   exact ⟨h1, h2⟩
theorem befN_lo (l : List S45) (s c e : Int) : ∀ n, -1 ≤ befN l s c e n ∧ befN l s c e n < n
 | 0 => by simp [befN]
 | n + 1 => by
  have := befN_lo l s c e n
  unfold befN
  split
  ·split <;> omega
  ·omega
theorem behN_lo (l : List S45) (s c e : Int) : ∀ n, -1 ≤ behN l s c e n ∧ behN l s c e n < n
 | 0 => by simp [behN]
 | n + 1 => by
  have := behN_lo l s c e n
  unfold behN
  split
  ·split
   ·omega
   ·split <;> omega
  ·omega
theorem befN_spec (l : List S45) (s c e : Int) : ∀ n, (befN l s c e n = -1 ∧ ∀ j : Nat, j < n → (j : Int) < e → ¬ isCh l s c j) ∨ (∃ j : Nat, j < n ∧ befN l s c e n = j ∧ isCh l s c j ∧ (j : Int) < e ∧ ∀ j' : Nat, j < j' → j' < n → (j' : Int) < e → ¬ isCh l s c j')
 | 0 => .inl ⟨rfl, fun j h => by omega⟩
 | n + 1 => by
  have ih := befN_spec l s c e n
  by_cases h : isCh l s c n ∧ (n : Int) < e
  ·have hb : befN l s c e (n + 1) = n := by unfold befN; rw [if_pos h.1, if_pos h.2]
   exact .inr ⟨n, zq16, hb, h.1, h.2, fun j' h1 h2 => by omega⟩
  ·have hb : befN l s c e (n + 1) = befN l s c e n := by
    rw [befN]
    split
    ·rw [if_neg (fun h2 => h ⟨by assumption, h2⟩)]
    ·rfl
   rw [hb]
   rcases ih with ⟨h1, h2⟩ | ⟨j, h1, h2, h3, h4, h5⟩
   ·refine .inl ⟨h1, fun j hj he hc => ?_⟩
    by_cases e1 : j = n
    ·subst e1; exact h ⟨hc, he⟩
    ·exact h2 j zq16 he hc
   ·refine .inr ⟨j, zq16, h2, h3, h4, fun j' h6 h7 he hc => ?_⟩
    by_cases e1 : j' = n
    ·subst e1; exact h ⟨hc, he⟩
    ·exact h5 j' h6 zq16 he hc
theorem behN_spec (l : List S45) (s c e : Int) : ∀ n, (behN l s c e n = -1 ∧ ∀ j : Nat, j < n → e ≤ (j : Int) → ¬ isCh l s c j) ∨ (∃ j : Nat, j < n ∧ behN l s c e n = j ∧ isCh l s c j ∧ e ≤ (j : Int) ∧ ∀ j' : Nat, j' < j → e ≤ (j' : Int) → ¬ isCh l s c j')
 | 0 => .inl ⟨rfl, fun j h => by omega⟩
 | n + 1 => by
  have ih := behN_spec l s c e n
  by_cases h : isCh l s c n ∧ e ≤ (n : Int)
  ·have hb : behN l s c e (n + 1) = if behN l s c e n < 0 then (n : Int) else behN l s c e n := by rw [behN, if_pos h.1, if_neg zq16]
   rcases ih with ⟨h1, h2⟩ | ⟨j, h1, h2, h3, h4, h5⟩
   ·rw [if_pos zq16] at hb
    exact .inr ⟨n, zq16, hb, h.1, h.2, h2⟩
   ·rw [if_neg zq16] at hb
    exact .inr ⟨j, zq16, hb.trans h2, h3, h4, h5⟩
  ·have hb : behN l s c e (n + 1) = behN l s c e n := by
    rw [behN]
    split
    ·rename_i hc
     rw [if_pos (by by_cases h2 : e ≤ (n : Int); exact absurd ⟨hc, h2⟩ h; omega)]
    ·rfl
   rw [hb]
   rcases ih with ⟨h1, h2⟩ | ⟨j, h1, h2, h3, h4, h5⟩
   ·refine .inl ⟨h1, fun j hj he hc => ?_⟩
    by_cases e1 : j = n
    ·subst e1; exact h ⟨hc, he⟩
    ·exact h2 j zq16 he hc
   ·exact .inr ⟨j, zq16, h2, h3, h4, h5⟩
theorem trU_scan (every : Int) (st : List S56) (l : List S45) (s c e : Int) : trU every st l s c e = if clmB st s c = false then 2 else trustP every l (befN l s c e l.length) (behN l s c e l.length) := by
 obtain ⟨h1, h2⟩ := scan l s c e l.length
 unfold trU trustS
 rw [h1, h2]
theorem befN_congr {l o : List S45} {s c : Int} (h : ∀ n, isCh o s c n ↔ isCh l s c n) (e : Int) : ∀ n, befN o s c e n = befN l s c e n
 | 0 => rfl
 | n + 1 => by
  have ih := befN_congr h e n
  rw [befN, befN, ih]
  by_cases hc : isCh l s c n
  ·rw [if_pos hc, if_pos ((h n).2 hc)]
  ·rw [if_neg hc, if_neg (fun x => hc ((h n).1 x))]
theorem behN_congr {l o : List S45} {s c : Int} (h : ∀ n, isCh o s c n ↔ isCh l s c n) (e : Int) : ∀ n, behN o s c e n = behN l s c e n
 | 0 => rfl
 | n + 1 => by
  have ih := behN_congr h e n
  rw [behN, behN, ih]
  by_cases hc : isCh l s c n
  ·rw [if_pos hc, if_pos ((h n).2 hc)]
  ·rw [if_neg hc, if_neg (fun x => hc ((h n).1 x))]
theorem howN_congr {every : Int} {st : List S56} {l o : List S45} {c e e' t : Int} (h : ∀ s : Nat, s < st.length → trU every st o s c e' = trU every st l s c e) : ∀ n, n ≤ st.length → howN every st o c e' t n = howN every st l c e t n
 | 0, _ => rfl
 | n + 1, hn => by
  have ih := howN_congr h (t := t) n zq16
  unfold howN
  rw [h n zq16, ih]
theorem judgeL_congr {every : Int} {st : List S56} {l o : List S45} {e e' : Int} (h : ∀ (s c : Nat), s < st.length → trU every st o s c e' = trU every st l s c e) : ∀ (fl : List S58) (i : Nat) (wv : Int × Int), judgeL every st o e' fl i wv = judgeL every st l e fl i wv
 | [], i, wv => rfl
 | x :: fl, i, wv => by
  unfold judgeL
  rw [howN_congr (fun s hs => h s i hs) st.length (Nat.le_refl _), howN_congr (fun s hs => h s i hs) st.length (Nat.le_refl _), judgeL_congr h fl (i + 1), judgeL_congr h fl (i + 1)]
theorem judgeS_congr {every : Int} {fl : List S58} {st : List S56} {l o : List S45} {e e' : Int} (hf : (rd_T45 o e').f6 = (rd_T45 l e).f6) (h : ∀ (s c : Nat), s < st.length → trU every st o s c e' = trU every st l s c e) : judgeS every fl st o e' = judgeS every fl st l e := by
 unfold judgeS
 rw [hf, judgeL_congr h]
theorem Valid.log {every : Int} {fl : List S58} {st : List S56} {l : List S45} (hc : chkS every fl st = 0) (hl : l.length ≤ 512) (h : ∀ i, i < l.length → runErr fl st l i = 0) : logS every fl st l = 0 := by
 unfold logS
 rw [if_pos hc, if_neg zq16]
 have go : ∀ r i, i + r = l.length → firstErr (runErr fl st l) r i = 0 := by
  intro r
  induction r with
  | zero => intro i _; rfl
  | succ r ih =>
   intro i hi
   rw [firstErr_succ, if_pos (h i zq16)]
   exact ih (i + 1) zq16
 exact go l.length 0 zq16
theorem logS_chk {every : Int} {fl : List S58} {st : List S56} {l : List S45} (h : logS every fl st l = 0) : chkS every fl st = 0 := by
 unfold logS at h
 split at h
 ·assumption
 ·exact h
theorem judgeF_ok {every : Int} {fl : List S58} {st : List S56} {l : List S45} (h : logS every fl st l = 0) (i : Nat) (hi : i < l.length) (hk : (rd_T45 l (i : Int)).f1 = 1) : judgeF every fl st l i = ((judgeS every fl st l i).1, (judgeS every fl st l i).2, 0) := by
 unfold judgeF
 rw [if_neg (fun x => x h), if_neg (show ¬ win (i : Int) 0 ((l.length : Int) - 1) = false from by unfold win; rw [decide_eq_true (show (0 : Int) ≤ i by omega), decide_eq_true (show (i : Int) ≤ (l.length : Int) - 1 by omega)]; decide), if_neg (fun x => x hk)]
set_option maxHeartbeats 8000000 in
set_option maxRecDepth 100000 in
theorem inspect_Missed.calls (a0_0 : Int) (A0_1 : Option Addr) (c0_1 : Nat) (l0_1 : List S58) (A0_2 : Option Addr) (c0_2 : Nat) (l0_2 : List S56) (A1 : Option Addr) (c1 : Nat) (l1 : List S45) (a2 : Int) (r1 r2 r3 r4 : Int) (w : World)
  (hr0_1 : Kd.C k58 w A0_1 l0_1.length l0_1) (hc0_1 : l0_1.length ≤ c0_1) (hr0_2 : Kd.C k56 w A0_2 l0_2.length l0_2) (hc0_2 : l0_2.length ≤ c0_2) (hr1 : Kd.C k45 w A1 l1.length l1) (hc1 : l1.length ≤ c1) (h : inspect_Missed.f a0_0 l0_1 l0_2 l1 a2 = some (r1, r2, r3, r4)) :
  Calls Try.prog 15 #[.agg #[.int .i64 a0_0, .slice A0_1 l0_1.length c0_1, .slice A0_2 l0_2.length c0_2], .slice A1 l1.length c1, .int .i64 a2] w fun e w' =>
   e = .returned (.tuple #[.agg #[.int .i64 r1, .int .i64 r2], .int .i64 r3, .int .i64 r4]) ∧ Below w.heap.size w w' := by
 have hj : missF a0_0 l0_1 l0_2 l1 a2 = (r1, r2, r3, r4) := Option.some.inj h
 clear h
 have hb1 := ((Below.refl w.heap.size w).alloc (Nat.le_refl _) (.cells #[.int .i64 a0_0, .slice A0_1 l0_1.length c0_1, .slice A0_2 l0_2.length c0_2] 25)).alloc zq51 (.cells #[.int .i64 0, .int .i64 0] 35)
 have hlog := checklog_plain a0_0 A0_1 c0_1 l0_1 A0_2 c0_2 l0_2 A1 c1 l1 w hr0_1 hc0_1 hr0_2 hc0_2 hr1 hc1 _ hb1
 have HB1 := Aside0.mk hb1
 have HC1 := Aside0.mk (blk_alloc (blk_new w (.cells #[.int .i64 a0_0, .slice A0_1 l0_1.length c0_1, .slice A0_2 l0_2.length c0_2] 25)) (.cells #[.int .i64 0, .int .i64 0] 35))
 have HR1 : Aside0 (((w.alloc (.cells #[.int .i64 a0_0, .slice A0_1 l0_1.length c0_1, .slice A0_2 l0_2.length c0_2] 25)).alloc (.cells #[.int .i64 0, .int .i64 0] 35)).heap[w.heap.size + 1]? = some (.cells #[.int .i64 0, .int .i64 0] 35 (0, 0))) := ⟨by
  have := blk_new (w.alloc (.cells #[.int .i64 a0_0, .slice A0_1 l0_1.length c0_1, .slice A0_2 l0_2.length c0_2] 25)) (.cells #[.int .i64 0, .int .i64 0] 35)
  simpa only [World.size_alloc] using this⟩
 clear hb1
 unfold missF at hj
 by_cases h0 : logS a0_0 l0_1 l0_2 l1 = 0
 ·rw [if_neg (fun hh => hh h0)] at hj
  have hv := logS_valid h0
  have hop := opened_valid a0_0 A0_1 c0_1 l0_1 A0_2 c0_2 l0_2 A1 c1 l1 w hr0_1 hc0_1 hr0_2 hc0_2 hr1 hv
  rw [h0] at hlog
  have hwp1 : wrap64 ((l0_1.length : Int) - 1) = (l0_1.length : Int) - 1 := wpred _ (by have := hv.n1; omega)
  have hwn := within_plain a2 0 ((l0_1.length : Int) - 1)
  have HV := Aside0.mk hv
  have hdesk := fun (W : World) b (hW : Below w.heap.size w W) (hd : DeskIs W b l1) => hv.desk (A0_1 := A0_1) (c0_1 := c0_1) (A0_2 := A0_2) (c0_2 := c0_2) (A1 := A1) (c1 := c1) (Kd.C_below hr0_1 hW) hc0_1 (Kd.C_below hr0_2 hW) hc0_2 (Kd.C_below hr1 hW) hd
  have HDESK := Aside0.mk hdesk
  have hclm := fun (W : World) (hW : Below w.heap.size w W) (s : Int) (h0 : 0 ≤ s) (h1 : s < l0_2.length) (hc : clmB l0_2 s a2 = true) => inspect_claim.calls a0_0 A0_1 c0_1 l0_1 A0_2 c0_2 l0_2 s a2 _ _ _ _ W (Kd.C_below hr0_1 hW) hc0_1 (Kd.C_below hr0_2 hW) hc0_2 (claim_val a0_0 l0_1 l0_2 s a2 h0 h1 hc)
  have HCLM := Aside0.mk hclm
  clear hr0_1 hr0_2 hr1 hv h0 hdesk hclm
  cases hw : win a2 0 ((l0_1.length : Int) - 1)
  ·rw [if_pos hw] at hj
   obtain ⟨rfl, rfl, rfl, rfl⟩ : 0 = r1 ∧ 0 = r2 ∧ 0 = r3 ∧ 7 = r4 := by simpa using hj
   rw [hw] at hwn
   go_enter Try.func15, Try.ntmps15
   go_wp2_with (first
    | (go_at_call 19; (with_reducible refine hlog.mono ?_); rintro e w1 ⟨rfl, hb⟩; have HB2 := Aside0.mk (below_step HB1.out hb); have HC2 := Aside0.mk (blk_below HC1.out hb); have HR2 := Aside0.mk (blk_below HR1.out hb); have hc0 : w1.cell? ⟨w.heap.size, 0, none⟩ = some (.int .i64 a0_0) := (blk_cell HC2.out 0).trans rfl; have hc1 : w1.cell? ⟨w.heap.size, 1, none⟩ = some (.slice A0_1 l0_1.length c0_1) := (blk_cell HC2.out 1).trans rfl; have hc2 : w1.cell? ⟨w.heap.size, 2, none⟩ = some (.slice A0_2 l0_2.length c0_2) := (blk_cell HC2.out 2).trans rfl; have hr0 : ∀ n, (w1.drewN n).cell? ⟨w.heap.size + 1, 0, none⟩ = some (.int .i64 0) := fun n => (blk_cell HR2.out 0).trans rfl; have hr1 : ∀ n, (w1.drewN n).cell? ⟨w.heap.size + 1, 1, none⟩ = some (.int .i64 0) := fun n => (blk_cell HR2.out 1).trans rfl; have hf0 : ∀ n, (w1.drewN n).frozen? ⟨w.heap.size + 1, 0, none⟩ = false := fun n => blk_frozen HR2.out 0; have hf1 : ∀ n, (w1.drewN n).frozen? ⟨w.heap.size + 1, 1, none⟩ = false := fun n => blk_frozen HR2.out 1; clear hb)
    | (go_at_call 36; (with_reducible refine (hwn _).mono ?_); rintro e w2 ⟨rfl, nd, rfl⟩))
   have e1 := blk_put (cs' := #[.int .i64 0, .int .i64 0]) (blk_drewN HR2.out nd) 0 (.int .i64 0) rfl
   have e2 := blk_put (cs' := #[.int .i64 0, .int .i64 0]) e1 1 (.int .i64 0) rfl
   refine bodyPost_ret (results_ctt rfl _ _ (w.heap.size + 1) 35 #[.int .i64 0, .int .i64 0] (0, 0) _ rfl e2 Try.underlying35 rfl zq23) rfl ⟨rfl, ?_⟩
   exact (((pw_below_drewN HB2.out nd).setCell (p := ⟨w.heap.size + 1, 0, none⟩) zq51 _).setCell (p := ⟨w.heap.size + 1, 1, none⟩) zq51 _)
  ·rw [if_neg (by rw [hw]; decide)] at hj
   rw [hw] at hwn
   have hwt := win_true hw
   obtain ⟨e1, e2, e3, rfl⟩ : ((missP a0_0 l0_1 l0_2 l1 a2 l1.length).1 : Nat) = r1 ∧ ((missP a0_0 l0_1 l0_2 l1 a2 l1.length).2.1 : Nat) = r2 ∧ ((missP a0_0 l0_1 l0_2 l1 a2 l1.length).2.2 : Nat) = r3 ∧ 0 = r4 := by simpa using hj
   have HE := Aside0.mk (And.intro e1 (And.intro e2 e3))
   have HA2 := Aside0.mk (show 0 ≤ a2 ∧ a2 ≤ 8 from ⟨hwt.1, by have := HV.out.n1; omega⟩)
   clear hj e1 e2 e3 hwt hw
   go_enter Try.func15, Try.ntmps15
   go_wp2_with (first
    | (go_at_call 19; (with_reducible refine hlog.mono ?_); rintro e w1 ⟨rfl, hb⟩; have HB2 := Aside0.mk (below_step HB1.out hb); have HC2 := Aside0.mk (blk_below HC1.out hb); have HR2 := Aside0.mk (blk_below HR1.out hb); have hc0 : w1.cell? ⟨w.heap.size, 0, none⟩ = some (.int .i64 a0_0) := (blk_cell HC2.out 0).trans rfl; have hc1 : w1.cell? ⟨w.heap.size, 1, none⟩ = some (.slice A0_1 l0_1.length c0_1) := (blk_cell HC2.out 1).trans rfl; have hc2 : w1.cell? ⟨w.heap.size, 2, none⟩ = some (.slice A0_2 l0_2.length c0_2) := (blk_cell HC2.out 2).trans rfl; have hr0 : ∀ n, (w1.drewN n).cell? ⟨w.heap.size + 1, 0, none⟩ = some (.int .i64 0) := fun n => (blk_cell HR2.out 0).trans rfl; have hr1 : ∀ n, (w1.drewN n).cell? ⟨w.heap.size + 1, 1, none⟩ = some (.int .i64 0) := fun n => (blk_cell HR2.out 1).trans rfl; have hf0 : ∀ n, (w1.drewN n).frozen? ⟨w.heap.size + 1, 0, none⟩ = false := fun n => blk_frozen HR2.out 0; have hf1 : ∀ n, (w1.drewN n).frozen? ⟨w.heap.size + 1, 1, none⟩ = false := fun n => blk_frozen HR2.out 1; clear hb)
    | (go_at_call 36; (with_reducible refine (hwn _).mono ?_); rintro e w2 ⟨rfl, nd, rfl⟩; have HB2x := Aside0.mk (((pw_below_drewN HB2.out nd).setCell (p := ⟨w.heap.size + 1, 0, none⟩) zq51 (.int .i64 0)).setCell (p := ⟨w.heap.size + 1, 1, none⟩) zq51 (.int .i64 1)); have HC2x := Aside0.mk (blk_far (blk_far (blk_drewN HC2.out nd) (p := ⟨w.heap.size + 1, 0, none⟩) zq51 (.int .i64 0)) (p := ⟨w.heap.size + 1, 1, none⟩) zq51 (.int .i64 1)); have hr2a := blk_put (cs' := #[.int .i64 0, .int .i64 0]) (blk_drewN HR2.out nd) 0 (.int .i64 0) rfl; have HR2x := Aside0.mk (blk_put (cs' := #[.int .i64 0, .int .i64 1]) hr2a 1 (.int .i64 1) rfl); clear hr2a; have hk0 : (((w1.drewN nd).setCell ⟨w.heap.size + 1, 0, none⟩ (.int .i64 0)).setCell ⟨w.heap.size + 1, 1, none⟩ (.int .i64 1)).cell? ⟨w.heap.size, 0, none⟩ = some (.int .i64 a0_0) := (blk_cell HC2x.out 0).trans rfl; have hk1 : (((w1.drewN nd).setCell ⟨w.heap.size + 1, 0, none⟩ (.int .i64 0)).setCell ⟨w.heap.size + 1, 1, none⟩ (.int .i64 1)).cell? ⟨w.heap.size, 1, none⟩ = some (.slice A0_1 l0_1.length c0_1) := (blk_cell HC2x.out 1).trans rfl; have hk2 : (((w1.drewN nd).setCell ⟨w.heap.size + 1, 0, none⟩ (.int .i64 0)).setCell ⟨w.heap.size + 1, 1, none⟩ (.int .i64 1)).cell? ⟨w.heap.size, 2, none⟩ = some (.slice A0_2 l0_2.length c0_2) := (blk_cell HC2x.out 2).trans rfl)
    | (go_at_call 32; (with_reducible refine (hop _ HB2x.out).mono ?_); rintro e w3 ⟨b, rfl, hD, hb⟩; have HB3 := Aside0.mk ((below_step HB2x.out hb).alloc (below_step HB2x.out hb).size (.cells #[.int .i64 a0_0, .slice A0_1 l0_1.length c0_1, .slice A0_2 l0_2.length c0_2, .slice A1 l1.length c1, .map (some b)] 77)); have HC3 := Aside0.mk (blk_alloc (blk_below HC2x.out hb) (.cells #[.int .i64 a0_0, .slice A0_1 l0_1.length c0_1, .slice A0_2 l0_2.length c0_2, .slice A1 l1.length c1, .map (some b)] 77)); have HR3 := Aside0.mk (blk_alloc (blk_below HR2x.out hb) (.cells #[.int .i64 a0_0, .slice A0_1 l0_1.length c0_1, .slice A0_2 l0_2.length c0_2, .slice A1 l1.length c1, .map (some b)] 77)); have HD3 := Aside0.mk (blk_new w3 (.cells #[.int .i64 a0_0, .slice A0_1 l0_1.length c0_1, .slice A0_2 l0_2.length c0_2, .slice A1 l1.length c1, .map (some b)] 77)); have HDI3 := Aside0.mk (hD.desk.below ((Below.refl _ w3).alloc (Nat.le_refl _) (.cells #[.int .i64 a0_0, .slice A0_1 l0_1.length c0_1, .slice A0_2 l0_2.length c0_2, .slice A1 l1.length c1, .map (some b)] 77))); have HG := Aside0.mk (show w.heap.size + 1 < w3.heap.size from blk_lt (blk_below HR2x.out hb)); clear hb hD)
    | (go_at_call 33; (with_reducible refine (inspect_verdicts.calls a0_0 A0_1 c0_1 l0_1 A0_2 c0_2 l0_2 A1 c1 l1 b _ (HDESK.out _ b HB3.out HDI3.out)).mono ?_); rintro e w4 ⟨g, rfl, ho, hb⟩; have HB4 := Aside0.mk (below_step HB3.out hb); have HC4 := Aside0.mk (blk_below HC3.out hb); have HR4 := Aside0.mk (blk_below HR3.out hb); have HD4 := Aside0.mk (blk_below HD3.out hb); have HDI4 := Aside0.mk (HDI3.out.below hb); have HO4 := Aside0.mk (own_weaken ho HB3.out.size); clear hb ho))
   go_loopg [7, 39] l1.length (fun gg s7 s39 wr => ∃ i : Nat, s39 = .int .i64 (i : Int) ∧ s7 = .int .i64 ((missP a0_0 l0_1 l0_2 l1 a2 i).2.2 : Nat) ∧ Aside0 (i ≤ l1.length ∧ l1.length - i ≤ gg) ∧ Aside0 (Below w.heap.size w wr) ∧ Aside0 (wr.heap[w.heap.size]? = some (.cells #[.int .i64 a0_0, .slice A0_1 l0_1.length c0_1, .slice A0_2 l0_2.length c0_2] 25 (0, 0))) ∧ Aside0 (wr.heap[w.heap.size + 1]? = some (.cells #[.int .i64 ((missP a0_0 l0_1 l0_2 l1 a2 i).1 : Nat), .int .i64 ((missP a0_0 l0_1 l0_2 l1 a2 i).2.1 : Nat)] 35 (0, 0))) ∧ Aside0 (wr.heap[w3.heap.size]? = some (.cells #[.int .i64 a0_0, .slice A0_1 l0_1.length c0_1, .slice A0_2 l0_2.length c0_2, .slice A1 l1.length c1, .map (some b)] 77 (0, 0))) ∧ Aside0 (DeskIs wr b l1) ∧ Aside0 (wr.ownsRow w.heap.size 46 1 (.slice (some ⟨g, 0, none⟩) l1.length l1.length) l1.length (nums .u8 (verdP a0_0 l0_1 l0_2 l1 l1.length))))
   case atStart => exact ⟨0, rfl, rfl, ⟨zq16, zq16⟩, HB4, HC4, HR4, HD4, HDI4, HO4⟩
   case round =>
    clear hr0 hr1 hf0 hf1 hc0 hc1 hc2 hk0 hk1 hk2
    obtain ⟨i, rfl, rfl, hi, HB, HC, HR, HD, HDI, HO⟩ := hrel
    by_cases hlt : i < l1.length
    ·have hlt' : (i : Int) < (l1.length : Int) := by omega
     have hb0 : decide (i < l1.length) = true := decide_eq_true hlt
     have hq0 : 0 ≤ (i : Int) := by omega
     have hq1 : (i : Int) ≤ 511 := by have := HV.out.len; omega
     have hca := (own_at HO.out (i : Int) hq0 hlt').1
     have hgv : rd (verdP a0_0 l0_1 l0_2 l1 l1.length) (i : Int) = vdS a0_0 l0_1 l0_2 l1 i := by
      have := verdP_get a0_0 l0_1 l0_2 l1 l1.length i hlt
      unfold rd
      rw [Int.toNat_natCast]
      exact this
     rw [hgv, Int.toNat_natCast] at hca
     clear hgv
     have hmb := missP_bound HV.out a2 i
     by_cases hv : vdS a0_0 l0_1 l0_2 l1 i = 2
     ·rw [hv] at hca
      have hmp : missP a0_0 l0_1 l0_2 l1 a2 (i + 1) = if (missP a0_0 l0_1 l0_2 l1 a2 i).1 * (shareP a0_0 l0_2 l1 a2 (i : Int) l0_2.length).2 < (shareP a0_0 l0_2 l1 a2 (i : Int) l0_2.length).1 * (missP a0_0 l0_1 l0_2 l1 a2 i).2.1 then ((shareP a0_0 l0_2 l1 a2 (i : Int) l0_2.length).1, (shareP a0_0 l0_2 l1 a2 (i : Int) l0_2.length).2, (missP a0_0 l0_1 l0_2 l1 a2 i).2.2 + 1) else ((missP a0_0 l0_1 l0_2 l1 a2 i).1, (missP a0_0 l0_1 l0_2 l1 a2 i).2.1, (missP a0_0 l0_1 l0_2 l1 a2 i).2.2 + 1) := by
       rw [show missP a0_0 l0_1 l0_2 l1 a2 (i + 1) = if vdS a0_0 l0_1 l0_2 l1 i = 2 then _ else _ from rfl, if_pos hv]
      generalize missP a0_0 l0_1 l0_2 l1 a2 i = mp at HR hmb hmp ⊢
      obtain ⟨m1, m2, m3⟩ := mp
      simp only at HR hmb hmp ⊢
      obtain ⟨m4, hm4⟩ : ∃ m4 : Nat, m3 + 1 = m4 := ⟨_, rfl⟩
      have hw3 : wrap64 ((m3 : Int) + 1) = (m4 : Int) := by rw [wsucc m3 zq16, hm4]
      rw [hm4] at hmp
      clear hm4
      have HMB := Aside0.mk hmb
      have HMP := Aside0.mk hmp
      clear hmb hmp hv
      have hcc2 : ∀ o, (wr.alloc o).cell? ⟨w.heap.size, 2, none⟩ = some (.slice A0_2 l0_2.length c0_2) := fun o => (blk_cell (blk_alloc HC.out o) 2).trans rfl
      obtain ⟨wo, hwo⟩ : ∃ wo, wo = wr := ⟨_, rfl⟩
      subst hwo
      have HBs := Aside0.mk (HB.out.alloc HB.out.size (.cells #[.int .i64 1, .int .i64 1] 35))
      have HCs := Aside0.mk (blk_alloc HC.out (.cells #[.int .i64 1, .int .i64 1] 35))
      have HRs := Aside0.mk (blk_alloc HR.out (.cells #[.int .i64 1, .int .i64 1] 35))
      have HDs := Aside0.mk (blk_alloc HD.out (.cells #[.int .i64 1, .int .i64 1] 35))
      have HSs := Aside0.mk (blk_new wo (.cells #[.int .i64 1, .int .i64 1] 35))
      have HDIs := Aside0.mk (HDI.out.below ((Below.refl _ wo).alloc (Nat.le_refl _) (.cells #[.int .i64 1, .int .i64 1] 35)))
      have HOs := Aside0.mk (own_move (w1 := wo.alloc (.cells #[.int .i64 1, .int .i64 1] 35)) HO.out (fun k hk => Below.heap_alloc _ _ k (own_lt HO.out k hk)))
      have HGO := Aside0.mk (show w3.heap.size < wo.heap.size from blk_lt HD.out)
      go_wp2
      simp only [hw3]
      go_loopg [52] l0_2.length (fun gj s52 wr => ∃ j : Nat, s52 = .int .i64 (j : Int) ∧ Aside0 (j ≤ l0_2.length ∧ l0_2.length - j ≤ gj) ∧ Aside0 (Below w.heap.size w wr) ∧ Aside0 (wr.heap[w.heap.size]? = some (.cells #[.int .i64 a0_0, .slice A0_1 l0_1.length c0_1, .slice A0_2 l0_2.length c0_2] 25 (0, 0))) ∧ Aside0 (wr.heap[w.heap.size + 1]? = some (.cells #[.int .i64 (m1 : Int), .int .i64 (m2 : Int)] 35 (0, 0))) ∧ Aside0 (wr.heap[w3.heap.size]? = some (.cells #[.int .i64 a0_0, .slice A0_1 l0_1.length c0_1, .slice A0_2 l0_2.length c0_2, .slice A1 l1.length c1, .map (some b)] 77 (0, 0))) ∧ Aside0 (DeskIs wr b l1) ∧ Aside0 (wr.ownsRow w.heap.size 46 1 (.slice (some ⟨g, 0, none⟩) l1.length l1.length) l1.length (nums .u8 (verdP a0_0 l0_1 l0_2 l1 l1.length))) ∧ Aside0 (wr.heap[wo.heap.size]? = some (.cells #[.int .i64 ((shareP a0_0 l0_2 l1 a2 (i : Int) j).1 : Nat), .int .i64 ((shareP a0_0 l0_2 l1 a2 (i : Int) j).2 : Nat)] 35 (0, 0))))
      case atStart => exact ⟨0, rfl, ⟨zq16, zq16⟩, HBs, HCs, HRs, HDs, HDIs, HOs, HSs⟩
      case round =>
       clear hca hcc2
       obtain ⟨j, rfl, hj, HBi, HCi, HRi, HDi, HDIi, HOi, HSi⟩ := hrel
       by_cases hltj : j < l0_2.length
       ·have hltj' : (j : Int) < (l0_2.length : Int) := by omega
        have hbj : decide (j < l0_2.length) = true := decide_eq_true hltj
        have hqj : (j : Int) ≤ 3 := by have := HV.out.n2; omega
        have hj0 : 0 ≤ (j : Int) := by omega
        have hd0 : wr.cell? ⟨w3.heap.size, 0, none⟩ = some (.int .i64 a0_0) := (blk_cell HDi.out 0).trans rfl
        have hd1 : wr.cell? ⟨w3.heap.size, 1, none⟩ = some (.slice A0_1 l0_1.length c0_1) := (blk_cell HDi.out 1).trans rfl
        have hd2 : wr.cell? ⟨w3.heap.size, 2, none⟩ = some (.slice A0_2 l0_2.length c0_2) := (blk_cell HDi.out 2).trans rfl
        have hd3 : wr.cell? ⟨w3.heap.size, 3, none⟩ = some (.slice A1 l1.length c1) := (blk_cell HDi.out 3).trans rfl
        have hd4 : wr.cell? ⟨w3.heap.size, 4, none⟩ = some (.map (some b)) := (blk_cell HDi.out 4).trans rfl
        have hcall := (HDESK.out _ b HBi.out HDIi.out).trusted a0_0 (j : Int) a2 (i : Int) hj0 hltj' HA2.out.1 HA2.out.2
        have hsb := shareP_bound HV.out a2 (i : Int) j zq16
        have hp4 := pow4 (j := j) (by have := HV.out.n2; omega)
        have hp3 : 1000 ^ j ≤ 1000000000 := by
         have h3 : j ≤ 3 := by omega
         have : 1000 ^ j ≤ 1000 ^ 3 := Nat.pow_le_pow_right zq49 h3
         simpa using this
        have hj1 := hltj'
        by_cases ht : trU a0_0 l0_2 l1 (j : Int) a2 (i : Int) = 1
        ·have hsh : shareP a0_0 l0_2 l1 a2 (i : Int) (j + 1) = (((shareP a0_0 l0_2 l1 a2 (i : Int) j).1 * (clmV l0_2 (j : Int) a2).f1.toNat) / Nat.gcd ((shareP a0_0 l0_2 l1 a2 (i : Int) j).1 * (clmV l0_2 (j : Int) a2).f1.toNat) ((shareP a0_0 l0_2 l1 a2 (i : Int) j).2 * (clmV l0_2 (j : Int) a2).f2.toNat), ((shareP a0_0 l0_2 l1 a2 (i : Int) j).2 * (clmV l0_2 (j : Int) a2).f2.toNat) / Nat.gcd ((shareP a0_0 l0_2 l1 a2 (i : Int) j).1 * (clmV l0_2 (j : Int) a2).f1.toNat) ((shareP a0_0 l0_2 l1 a2 (i : Int) j).2 * (clmV l0_2 (j : Int) a2).f2.toNat)) := by
          rw [show shareP a0_0 l0_2 l1 a2 (i : Int) (j + 1) = if trU a0_0 l0_2 l1 (j : Int) a2 (i : Int) = 1 then _ else _ from rfl, if_pos ht]
         have HCB := Aside0.mk (trU_claim ht)
         have hcv := HV.out.claim hj0 hltj' HCB.out
         rw [ht] at hcall
         generalize shareP a0_0 l0_2 l1 a2 (i : Int) j = sp at HSi hsb hsh
         obtain ⟨s1, s2⟩ := sp
         simp only at HSi hsb hsh
         have hcj := fun (W : World) (hW : Below w.heap.size w W) => HCLM.out W hW (j : Int) hj0 hj1 HCB.out
         generalize hx : clmV l0_2 (j : Int) a2 = x at hcv hsh hcj
         have HCJ := Aside0.mk hcj
         clear hcj
         have hb1 : s1 * x.f1.toNat ≤ 1000000000000 := Nat.le_trans (Nat.mul_le_mul (Nat.le_trans hsb.1 hp3) (show x.f1.toNat ≤ 1000 by omega)) zq49
         have hb2 : s2 * x.f2.toNat ≤ 1000000000000 := Nat.le_trans (Nat.mul_le_mul (Nat.le_trans hsb.2.1 hp3) (show x.f2.toNat ≤ 1000 by omega)) zq49
         have hb3 : 0 < s2 * x.f2.toNat := Nat.mul_pos hsb.2.2 zq16
         have hm1 : (s1 : Int) * x.f1 = ((s1 * x.f1.toNat : Nat) : Int) := by rw [Int.natCast_mul, show ((x.f1.toNat : Nat) : Int) = x.f1 by omega]
         have hm2 : (s2 : Int) * x.f2 = ((s2 * x.f2.toNat : Nat) : Int) := by rw [Int.natCast_mul, show ((x.f2.toNat : Nat) : Int) = x.f2 by omega]
         generalize s1 * x.f1.toNat = pa at hb1 hm1 hsh hb3
         generalize s2 * x.f2.toNat = pb at hb2 hm2 hsh hb3
         have hw1 : wrap64 ((s1 : Int) * x.f1) = (pa : Int) := by rw [hm1]; unfold wrap64; omega
         have hw2 : wrap64 ((s2 : Int) * x.f2) = (pb : Int) := by rw [hm2]; unfold wrap64; omega
         have hlow := fun W => inspect_lowest.calls pa pb W hb3 hb1 hb2
         generalize pa / Nat.gcd pa pb = qa at hlow hsh
         generalize pb / Nat.gcd pa pb = qb at hlow hsh
         have HLOW := Aside0.mk hlow
         clear hlow
         have HSH := Aside0.mk hsh
         clear hsb hsh hcv hb1 hb2 hb3 hm1 hm2 hp3 hp4 ht hltj' hx
         go_wp2_with (first
          | (go_at_call 37; (with_reducible refine hcall.mono ?_); rintro e wa ⟨rfl, hb⟩; have HBa := Aside0.mk (below_step HBi.out hb); have HCa := Aside0.mk (blk_below HCi.out hb); have HRa := Aside0.mk (blk_below HRi.out hb); have HDa := Aside0.mk (blk_below HDi.out hb); have HSa := Aside0.mk (blk_below HSi.out hb); have HDIa := Aside0.mk (HDIi.out.below hb); have HOa := Aside0.mk (own_move HOi.out (fun k hk => hb.block k (own_lt HOi.out k hk))); have hc0 : wa.cell? ⟨w.heap.size, 0, none⟩ = some (.int .i64 a0_0) := (blk_cell HCa.out 0).trans rfl; have hc1 : wa.cell? ⟨w.heap.size, 1, none⟩ = some (.slice A0_1 l0_1.length c0_1) := (blk_cell HCa.out 1).trans rfl; have hc2 : wa.cell? ⟨w.heap.size, 2, none⟩ = some (.slice A0_2 l0_2.length c0_2) := (blk_cell HCa.out 2).trans rfl; clear hb)
          | (go_at_call 38; (with_reducible refine (HCJ.out _ HBa.out).mono ?_); rintro e wb ⟨rfl, hb⟩; have HBb := Aside0.mk (below_step HBa.out hb); have HCb := Aside0.mk (blk_below HCa.out hb); have HRb := Aside0.mk (blk_below HRa.out hb); have HDb := Aside0.mk (blk_below HDa.out hb); have HSb := Aside0.mk (blk_below HSa.out hb); have HDIb := Aside0.mk (HDIa.out.below hb); have HOb := Aside0.mk (own_move HOa.out (fun k hk => hb.block k (own_lt HOa.out k hk))); have hs0 : ∀ o, (wb.alloc o).cell? ⟨wo.heap.size, 0, none⟩ = some (.int .i64 (s1 : Int)) := fun o => (blk_cell (blk_alloc HSb.out o) 0).trans rfl; have hs1 : ∀ o, (wb.alloc o).cell? ⟨wo.heap.size, 1, none⟩ = some (.int .i64 (s2 : Int)) := fun o => (blk_cell (blk_alloc HSb.out o) 1).trans rfl; clear hb)
          | (go_at_call 39; (with_reducible refine (HLOW.out _).mono ?_); rintro e wc ⟨rfl, hb⟩; have HBc := Aside0.mk (below_step (HBb.out.alloc HBb.out.size (.cells #[.int .i64 x.f0, .int .i64 x.f1, .int .i64 x.f2] 68)) hb); have HCc := Aside0.mk (blk_below (blk_alloc HCb.out (.cells #[.int .i64 x.f0, .int .i64 x.f1, .int .i64 x.f2] 68)) hb); have HRc := Aside0.mk (blk_below (blk_alloc HRb.out (.cells #[.int .i64 x.f0, .int .i64 x.f1, .int .i64 x.f2] 68)) hb); have HDc := Aside0.mk (blk_below (blk_alloc HDb.out (.cells #[.int .i64 x.f0, .int .i64 x.f1, .int .i64 x.f2] 68)) hb); have HSc := Aside0.mk (blk_below (blk_alloc HSb.out (.cells #[.int .i64 x.f0, .int .i64 x.f1, .int .i64 x.f2] 68)) hb); have HDIc := Aside0.mk ((HDIb.out.below ((Below.refl _ wb).alloc (Nat.le_refl _) (.cells #[.int .i64 x.f0, .int .i64 x.f1, .int .i64 x.f2] 68))).below hb); have HOc := Aside0.mk (own_move (own_move (w1 := wb.alloc (.cells #[.int .i64 x.f0, .int .i64 x.f1, .int .i64 x.f2] 68)) HOb.out (fun k hk => Below.heap_alloc _ _ k (own_lt HOb.out k hk))) (fun k hk => hb.block k (by have := own_lt HOb.out k hk; simp only [World.size_alloc]; omega))); have hz0 : wc.cell? ⟨wo.heap.size, 0, none⟩ = some (.int .i64 (s1 : Int)) := (blk_cell HSc.out 0).trans rfl; have hz1 : wc.cell? ⟨wo.heap.size, 1, none⟩ = some (.int .i64 (s2 : Int)) := (blk_cell HSc.out 1).trans rfl; have hf0 := blk_frozen HSc.out 0; have hf1 := blk_frozen HSc.out 1; clear hb))
         have z1 := blk_put (cs' := #[.int .i64 (qa : Int), .int .i64 (s2 : Int)]) HSc.out 0 (.int .i64 (qa : Int)) rfl
         have z2 := blk_put (cs' := #[.int .i64 (qa : Int), .int .i64 (qb : Int)]) z1 1 (.int .i64 (qb : Int)) rfl
         have n0 : w.heap.size ≠ wo.heap.size := by have := HG.out; have := HGO.out; omega
         have n1 : w.heap.size + 1 ≠ wo.heap.size := by have := HG.out; have := HGO.out; omega
         have n2 : w3.heap.size ≠ wo.heap.size := by have := HGO.out; omega
         have hle : w.heap.size ≤ wo.heap.size := by have := HG.out; have := HGO.out; omega
         go_roundg (l0_2.length - (j + 1))
         case measure => have := hj.out; omega
         case rel =>
          refine ⟨j + 1, zq70, ⟨zq16⟩, ⟨(HBc.out.setCell (p := ⟨wo.heap.size, 0, none⟩) hle _).setCell (p := ⟨wo.heap.size, 1, none⟩) hle _⟩, ⟨blk_far (blk_far HCc.out (p := ⟨wo.heap.size, 0, none⟩) n0 _) (p := ⟨wo.heap.size, 1, none⟩) n0 _⟩, ⟨blk_far (blk_far HRc.out (p := ⟨wo.heap.size, 0, none⟩) n1 _) (p := ⟨wo.heap.size, 1, none⟩) n1 _⟩, ⟨blk_far (blk_far HDc.out (p := ⟨wo.heap.size, 0, none⟩) n2 _) (p := ⟨wo.heap.size, 1, none⟩) n2 _⟩, ⟨(HDIc.out.setCell HSc.out zq49 0 _).setCell z1 zq49 1 _⟩, ⟨?_⟩, by rw [HSH.out]; exact ⟨z2⟩⟩
          exact own_move HOc.out (fun k hk => by rw [Below.heap_setCell _ _ _ k (fun e => own_ne_cells HOc.out HSc.out zq49 (by rw [hk, e])), Below.heap_setCell _ _ _ k (fun e => own_ne_cells HOc.out HSc.out zq49 (by rw [hk, e]))])
        ·have hbt : (trU a0_0 l0_2 l1 (j : Int) a2 (i : Int) == 1) = false := by simpa using ht
         have hsh : shareP a0_0 l0_2 l1 a2 (i : Int) (j + 1) = shareP a0_0 l0_2 l1 a2 (i : Int) j := by
          rw [show shareP a0_0 l0_2 l1 a2 (i : Int) (j + 1) = if trU a0_0 l0_2 l1 (j : Int) a2 (i : Int) = 1 then _ else _ from rfl, if_neg ht]
         have HSH := Aside0.mk hsh
         clear hsb hsh hp3 hp4 ht hltj'
         go_wp2_with (go_at_call 37; (with_reducible refine hcall.mono ?_); rintro e wa ⟨rfl, hb⟩; have HBa := Aside0.mk (below_step HBi.out hb); have HCa := Aside0.mk (blk_below HCi.out hb); have HRa := Aside0.mk (blk_below HRi.out hb); have HDa := Aside0.mk (blk_below HDi.out hb); have HSa := Aside0.mk (blk_below HSi.out hb); have HDIa := Aside0.mk (HDIi.out.below hb); have HOa := Aside0.mk (own_move HOi.out (fun k hk => hb.block k (own_lt HOi.out k hk))); have hc0 : wa.cell? ⟨w.heap.size, 0, none⟩ = some (.int .i64 a0_0) := (blk_cell HCa.out 0).trans rfl; have hc1 : wa.cell? ⟨w.heap.size, 1, none⟩ = some (.slice A0_1 l0_1.length c0_1) := (blk_cell HCa.out 1).trans rfl; have hc2 : wa.cell? ⟨w.heap.size, 2, none⟩ = some (.slice A0_2 l0_2.length c0_2) := (blk_cell HCa.out 2).trans rfl; clear hb)
         go_roundg (l0_2.length - (j + 1))
         case measure => have := hj.out; omega
         case rel => exact ⟨j + 1, zq70, ⟨zq16⟩, HBa, HCa, HRa, HDa, HDIa, HOa, by rw [HSH.out]; exact HSa⟩
       ·have hlenj : j = l0_2.length := by have := hj.out; omega
        have hbj : decide (j < l0_2.length) = false := decide_eq_false hltj
        subst hlenj
        clear hltj
        have hsb := shareP_bound HV.out a2 (i : Int) l0_2.length (Nat.le_refl _)
        have hp4 := pow4 (j := l0_2.length) HV.out.n2
        have hmp := HMP.out
        generalize shareP a0_0 l0_2 l1 a2 (i : Int) l0_2.length = sp at HSi hsb hmp
        obtain ⟨s1, s2⟩ := sp
        simp only at HSi hsb hmp
        have hless := fun W => inspect_less.calls m1 m2 s1 s2 W HMB.out.1 HMB.out.2.1 zq16 zq16
        have HI := Aside0.mk (And.intro hi.out.1 hi.out.2)
        clear hi hsb hp4
        have hs0 : wr.cell? ⟨wo.heap.size, 0, none⟩ = some (.int .i64 (s1 : Int)) := (blk_cell HSi.out 0).trans rfl
        have hs1 : wr.cell? ⟨wo.heap.size, 1, none⟩ = some (.int .i64 (s2 : Int)) := (blk_cell HSi.out 1).trans rfl
        have hr0 : wr.cell? ⟨w.heap.size + 1, 0, none⟩ = some (.int .i64 (m1 : Int)) := (blk_cell HRi.out 0).trans rfl
        have hr1 : wr.cell? ⟨w.heap.size + 1, 1, none⟩ = some (.int .i64 (m2 : Int)) := (blk_cell HRi.out 1).trans rfl
        by_cases hl : m1 * s2 < s1 * m2
        ·rw [if_pos hl] at hmp
         rw [decide_eq_true hl] at hless
         have HLESS := Aside0.mk hless
         have HMQ := Aside0.mk hmp
         clear hless hmp hl
         go_wp2_with (go_at_call 40; (with_reducible refine (HLESS.out _).mono ?_); rintro e wc ⟨rfl, hb⟩; have HBc := Aside0.mk (below_step HBi.out hb); have HCc := Aside0.mk (blk_below HCi.out hb); have HRc := Aside0.mk (blk_below HRi.out hb); have HDc := Aside0.mk (blk_below HDi.out hb); have HSc := Aside0.mk (blk_below HSi.out hb); have HDIc := Aside0.mk (HDIi.out.below hb); have HOc := Aside0.mk (own_move HOi.out (fun k hk => hb.block k (own_lt HOi.out k hk))); have hs0 : wc.cell? ⟨wo.heap.size, 0, none⟩ = some (.int .i64 (s1 : Int)) := (blk_cell HSc.out 0).trans rfl; have hs1 : wc.cell? ⟨wo.heap.size, 1, none⟩ = some (.int .i64 (s2 : Int)) := (blk_cell HSc.out 1).trans rfl; have hr0 : wc.cell? ⟨w.heap.size + 1, 0, none⟩ = some (.int .i64 (m1 : Int)) := (blk_cell HRc.out 0).trans rfl; have hr1 : wc.cell? ⟨w.heap.size + 1, 1, none⟩ = some (.int .i64 (m2 : Int)) := (blk_cell HRc.out 1).trans rfl; have hf0 := blk_frozen HRc.out 0; have hf1 := blk_frozen HRc.out 1; clear hb)
         have z1 := blk_put (cs' := #[.int .i64 (s1 : Int), .int .i64 (m2 : Int)]) HRc.out 0 (.int .i64 (s1 : Int)) rfl
         have z2 := blk_put (cs' := #[.int .i64 (s1 : Int), .int .i64 (s2 : Int)]) z1 1 (.int .i64 (s2 : Int)) rfl
         have n2 : w3.heap.size ≠ w.heap.size + 1 := by have := HG.out; omega
         go_roundg (l1.length - (i + 1))
         case measure => have := HI.out; omega
         case rel =>
          refine ⟨i + 1, zq70, by rw [HMQ.out], ⟨zq16⟩, ⟨(HBc.out.setCell (p := ⟨w.heap.size + 1, 0, none⟩) zq51 _).setCell (p := ⟨w.heap.size + 1, 1, none⟩) zq51 _⟩, ⟨blk_far (blk_far HCc.out (p := ⟨w.heap.size + 1, 0, none⟩) zq51 _) (p := ⟨w.heap.size + 1, 1, none⟩) zq51 _⟩, by rw [HMQ.out]; exact ⟨z2⟩, ⟨blk_far (blk_far HDc.out (p := ⟨w.heap.size + 1, 0, none⟩) n2 _) (p := ⟨w.heap.size + 1, 1, none⟩) n2 _⟩, ⟨(HDIc.out.setCell HRc.out zq49 0 _).setCell z1 zq49 1 _⟩, ⟨?_⟩⟩
          exact own_move HOc.out (fun k hk => by rw [Below.heap_setCell _ _ _ k (fun e => own_ne_cells HOc.out HRc.out zq49 (by rw [hk, e])), Below.heap_setCell _ _ _ k (fun e => own_ne_cells HOc.out HRc.out zq49 (by rw [hk, e]))])
        ·rw [if_neg hl] at hmp
         rw [decide_eq_false hl] at hless
         have HLESS := Aside0.mk hless
         have HMQ := Aside0.mk hmp
         clear hless hmp hl
         go_wp2_with (go_at_call 40; (with_reducible refine (HLESS.out _).mono ?_); rintro e wc ⟨rfl, hb⟩; have HBc := Aside0.mk (below_step HBi.out hb); have HCc := Aside0.mk (blk_below HCi.out hb); have HRc := Aside0.mk (blk_below HRi.out hb); have HDc := Aside0.mk (blk_below HDi.out hb); have HSc := Aside0.mk (blk_below HSi.out hb); have HDIc := Aside0.mk (HDIi.out.below hb); have HOc := Aside0.mk (own_move HOi.out (fun k hk => hb.block k (own_lt HOi.out k hk))); have hs0 : wc.cell? ⟨wo.heap.size, 0, none⟩ = some (.int .i64 (s1 : Int)) := (blk_cell HSc.out 0).trans rfl; have hs1 : wc.cell? ⟨wo.heap.size, 1, none⟩ = some (.int .i64 (s2 : Int)) := (blk_cell HSc.out 1).trans rfl; have hr0 : wc.cell? ⟨w.heap.size + 1, 0, none⟩ = some (.int .i64 (m1 : Int)) := (blk_cell HRc.out 0).trans rfl; have hr1 : wc.cell? ⟨w.heap.size + 1, 1, none⟩ = some (.int .i64 (m2 : Int)) := (blk_cell HRc.out 1).trans rfl; have hf0 := blk_frozen HRc.out 0; have hf1 := blk_frozen HRc.out 1; clear hb)
         go_roundg (l1.length - (i + 1))
         case measure => have := HI.out; omega
         case rel => exact ⟨i + 1, zq70, by rw [HMQ.out], ⟨zq16⟩, HBc, HCc, by rw [HMQ.out]; exact HRc, HDc, HDIc, HOc⟩
     ·have hvb : (vdS a0_0 l0_1 l0_2 l1 i == 2) = false := by simpa using hv
      have hmp : missP a0_0 l0_1 l0_2 l1 a2 (i + 1) = missP a0_0 l0_1 l0_2 l1 a2 i := by
       rw [show missP a0_0 l0_1 l0_2 l1 a2 (i + 1) = if vdS a0_0 l0_1 l0_2 l1 i = 2 then _ else _ from rfl, if_neg hv]
      have HMP := Aside0.mk hmp
      clear hmb hmp hv
      go_wp2
      go_roundg (l1.length - (i + 1))
      case measure => have := hi.out; omega
      case rel => exact ⟨i + 1, zq70, by rw [HMP.out], ⟨zq16⟩, HB, HC, by rw [HMP.out]; exact HR, HD, HDI, HO⟩
    ·have hlen : i = l1.length := by have := hi.out; omega
     have hb0 : decide (i < l1.length) = false := decide_eq_false hlt
     subst hlen
     clear hlt
     have hbn := (missP_bound HV.out a2 l1.length).2.2.2
     have he := HE.out
     have hr0 : wr.cell? ⟨w.heap.size + 1, 0, none⟩ = some (.int .i64 ((missP a0_0 l0_1 l0_2 l1 a2 l1.length).1 : Nat)) := (blk_cell HR.out 0).trans rfl
     have hr1 : wr.cell? ⟨w.heap.size + 1, 1, none⟩ = some (.int .i64 ((missP a0_0 l0_1 l0_2 l1 a2 l1.length).2.1 : Nat)) := (blk_cell HR.out 1).trans rfl
     have hf0 := blk_frozen HR.out 0
     have hf1 := blk_frozen HR.out 1
     go_wp2
     have e1 := blk_put (cs' := #[.int .i64 r1, .int .i64 ((missP a0_0 l0_1 l0_2 l1 a2 l1.length).2.1 : Nat)]) HR.out 0 (.int .i64 r1) rfl
     have e2 := blk_put (cs' := #[.int .i64 r1, .int .i64 r2]) e1 1 (.int .i64 r2) rfl
     refine bodyPost_ret (results_ctt rfl _ _ (w.heap.size + 1) 35 #[.int .i64 r1, .int .i64 r2] (0, 0) _ rfl e2 Try.underlying35 rfl zq23) rfl ⟨by first | rfl | (rw [← he.2.2]; rfl), ?_⟩
     exact (HB.out.setCell (p := ⟨w.heap.size + 1, 0, none⟩) zq51 _).setCell (p := ⟨w.heap.size + 1, 1, none⟩) zq51 _
 ·rw [if_pos h0] at hj
  obtain ⟨rfl, rfl, rfl, h3⟩ : 0 = r1 ∧ 0 = r2 ∧ 0 = r3 ∧ logS a0_0 l0_1 l0_2 l1 = r4 := by simpa using hj
  rw [h3] at hlog h0
  have hb0 : (r4 == 0) = false := by simpa using h0
  clear hj h3 h0
  go_enter Try.func15, Try.ntmps15
  go_wp2_with (go_at_call 19; (with_reducible refine hlog.mono ?_); rintro e w1 ⟨rfl, hb⟩; have HB2 := Aside0.mk (below_step HB1.out hb); have HR2 := Aside0.mk (blk_below HR1.out hb); have hr0 : w1.cell? ⟨w.heap.size + 1, 0, none⟩ = some (.int .i64 0) := (blk_cell HR2.out 0).trans rfl; have hr1 : w1.cell? ⟨w.heap.size + 1, 1, none⟩ = some (.int .i64 0) := (blk_cell HR2.out 1).trans rfl; have hf0 := blk_frozen HR2.out 0; have hf1 := blk_frozen HR2.out 1; clear hb)
  have e1 := blk_put (cs' := #[.int .i64 0, .int .i64 0]) HR2.out 0 (.int .i64 0) rfl
  have e2 := blk_put (cs' := #[.int .i64 0, .int .i64 0]) e1 1 (.int .i64 0) rfl
  refine bodyPost_ret (results_ctt rfl _ _ (w.heap.size + 1) 35 #[.int .i64 0, .int .i64 0] (0, 0) _ rfl e2 Try.underlying35 rfl zq23) rfl ⟨rfl, ?_⟩
  exact (HB2.out.setCell (p := ⟨w.heap.size + 1, 0, none⟩) zq51 _).setCell (p := ⟨w.heap.size + 1, 1, none⟩) zq51 _
end Go.Proofs.Ytbpebehbfpgjbaa.P
end
section
namespace Go.Proofs.Ytbpebehbfpgjbaa.P
open Go.RowKit Go.Proofs.YtbpebehbfpgjbaaW.PrintWords Go.Proofs.YtbpebehbfpgjbaaW.PrintLast Go.Proofs.YtbpebehbfpgjbaaW.PrintMore
set_option linter.unusedVariables false
set_option linter.unusedSimpArgs false
open GM
open Go.Maps (Keyed)
theorem keyed3 : Keyed Try.prog 3 := Go.Maps.int_keyed Try.underlying3
theorem key3 (n : Int) (h : (Lit.int .i64 n).wf = true) : keyOf Try.prog 3 (.int .i64 n) = some (.int .i64 n) := by
 unfold keyOf
 simp [mapKey, Try.underlying3, h]
theorem eqmap1 (b : Nat) (w : World) : (binOp .eql 88 (.map (some b)) (.map none)).run Try.prog w = .ok (.bool false) w := by kernel_rfl
theorem eqmap0 (w : World) : (binOp .eql 88 (.map none) (.map none)).run Try.prog w = .ok (.bool true) w := by kernel_rfl
theorem zero74 : ∀ u : World, (zeroValue 74).run Try.prog u = .ok (.slice none 0 0) u := fun u => by kernel_rfl
theorem info46 : (Try.prog.info? 46).map (fun i => (i.zero, i.size, i.bytes)) = some (some (.int .u8 0), 1, 1) := by kernel_rfl
def ShelfIs (W : World) (base g : Nat) (f : Value → List Int) : Prop :=
 (W.heap[g]? = some (.cells #[.map none] 90 (0, 0)) ∧ f = fun _ => []) ∨ ∃ b, W.heap[g]? = some (.cells #[.map (some b)] 90 (0, 0)) ∧ Groups Try.prog 3 46 .u8 W base b f ∧ base ≤ b
structure KeptBut (base g : Nat) (w w' : World) : Prop where
 os : w'.os = w.os
 tape : w'.tape = w.tape
 output : w'.output = w.output
 size : w.heap.size ≤ w'.heap.size
 block : ∀ j, j < base → j ≠ g → w'.heap[j]? = w.heap[j]?
def isInt (k : Value) (n : Int) : Bool := match k with | .int .i64 m => m == n | _ => false
def put1 (f : Value → List Int) (n x : Int) : Value → List Int := fun k => if isInt k n = true then f k ++ [x] else f k
theorem isInt_true {k : Value} {n : Int} (h : isInt k n = true) : k = .int .i64 n := by
 unfold isInt at h
 split at h
 ·rw [beq_iff_eq] at h; rw [h]
 ·cases h
theorem isInt_self (n : Int) : isInt (.int .i64 n) n = true := by simp [isInt]
theorem KeptBut.refl (base g : Nat) (w : World) : KeptBut base g w w := ⟨rfl, rfl, rfl, Nat.le_refl _, fun _ _ _ => rfl⟩
theorem KeptBut.step {base g : Nat} {w W w' : World} (h : KeptBut base g w W) (hs : Below base W w') : KeptBut base g w w' :=
 ⟨hs.os.trans h.os, hs.tape.trans h.tape, hs.output.trans h.output, Nat.le_trans h.size hs.size, fun j hj hg => (hs.block j hj).trans (h.block j hj hg)⟩
theorem put_back {b : Nat} {n x : Int} {base : Nat} {f : Value → List Int} {w W w1 : World} {v0 v1 : Value} (hW : W.heap = w.heap) (hb : base ≤ b) (hbw : b < w.heap.size)
  (hown : w.ownsRow base 46 1 v0 (f (.int .i64 n)).length (nums .u8 (f (.int .i64 n)))) (hnb : v0.ownBlock ≠ some b)
  (hback : ∀ (W2 : World) (val : Value) (xs : List Int) (f' : Value → List Int), W2.heap[b]? = w.heap[b]? → (∀ j, j < w.heap.size → j ≠ b → some j ≠ v0.ownBlock → W2.heap[j]? = w.heap[j]?) →
    W2.ownsRow base 46 1 val xs.length (nums .u8 xs) → xs ≠ [] → (val.ownBlock = v0.ownBlock ∨ ∃ g, val.ownBlock = some g ∧ w.heap.size ≤ g) → f' (.int .i64 n) = xs → (∀ k', k' ≠ .int .i64 n → f' k' = f k') →
    ∃ es' clock', (Instr.mapUpdate 88 (.map (some b)) (.int .i64 n) val).run Try.prog W2 = .ok () (ChangeMaps.setBlock W2 b (.map es' clock')) ∧ Groups Try.prog 3 46 .u8 (ChangeMaps.setBlock W2 b (.map es' clock')) base b f')
  (ho : (Kd.int .u8).R 46 w1 base (fun _ => True) v1 (f (.int .i64 n) ++ [x])) (hg : W.grownBy w1 v0.ownBlock) (hat : v1.ownBlock = v0.ownBlock ∨ ∃ b, v1.ownBlock = some b ∧ W.heap.size ≤ b) :
  ∃ es' clock', (Instr.mapUpdate 88 (.map (some b)) (.int .i64 n) v1).run Try.prog w1 = .ok () (ChangeMaps.setBlock w1 b (.map es' clock')) ∧ Groups Try.prog 3 46 .u8 (ChangeMaps.setBlock w1 b (.map es' clock')) base b (put1 f n x) := by
 refine hback w1 v1 (f (.int .i64 n) ++ [x]) (put1 f n x) ?_ (fun j hj hjb hjv => ?_) (Kd.own_of_R ho) zq51 (by rwa [hW] at hat) ?_ (fun k' hk' => ?_)
 ·rw [hg.block b (by rw [hW]; exact hbw) (fun e => hnb e.symm), hW]
 ·rw [hg.block j (by rw [hW]; exact hj) hjv, hW]
 ·simp [put1, isInt_self]
 ·have : isInt k' n = false := by
   cases h : isInt k' n
   ·rfl
   ·exact absurd (isInt_true h) hk'
  simp [put1, this]
set_option maxHeartbeats 4000000 in
set_option maxRecDepth 100000 in
theorem put_some (g b base : Nat) (n x : Int) (f : Value → List Int) (w : World) (hg : w.heap[g]? = some (.cells #[.map (some b)] 90 (0, 0))) (hG : Groups Try.prog 3 46 .u8 w base b f) (hb : base ≤ b) (hgb : g < base) (hn : (Lit.int .i64 n).wf = true) (hbase : base ≤ w.heap.size) (hlen : (f (.int .i64 n)).length ≤ 512) :
  Calls Try.prog 66 #[.pointer (some ⟨g, 0, none⟩), .int .i64 n, .int .u8 x] w fun e w' => e = .returned (.tuple #[]) ∧ ShelfIs w' base g (put1 f n x) ∧ KeptBut base g w w' := by
 have hc := (blk_cell hg 0).trans (rfl : _ = some (Value.map (some b)))
 have heq := eqmap1 b
 have HBB := Aside0.mk hb
 have HGB := Aside0.mk hgb
 have HBASE := Aside0.mk hbase
 have HLEN := Aside0.mk hlen
 have HN := Aside0.mk hn
 have HKW := Aside0.mk (KeptBut.refl base g w)
 have HGW := Aside0.mk hg
 have HGR0 := Aside0.mk hG
 clear hb hgb hn hbase hlen hg hG
 go_enter Try.func66, Try.ntmps66
 go_wp2
 obtain ⟨W, hW⟩ : ∃ W, W = w := ⟨_, rfl⟩
 subst hW
 have hgW := HGW.out
 have hGW := HGR0.out
 (have hbw := hGW.lt; obtain ⟨v0, hlook, hown, hnb, hback⟩ := hGW.update keyed3 Try.underlying88 zero74 (key3 n HN.out); have hc := (blk_cell hgW 0).trans (rfl : _ = some (Value.map (some b))); have hl0 := hlook W rfl; have hl1 : (Instr.lookup 88 (.map (some b)) (.int .i64 n) false).run Try.prog W.drew = .ok v0 W.drew := hlook W.drew rfl; have hl3 : ∀ o, (Instr.lookup 88 (.map (some b)) (.int .i64 n) false).run Try.prog (W.drew.alloc o) = .ok v0 (W.drew.alloc o) := fun o => hlook _ (blk_alloc' (W := W.drew) hbw o); have hl4 : ∀ o, (Instr.lookup 88 (.map (some b)) (.int .i64 n) false).run Try.prog (W.alloc o).drew = .ok v0 (W.alloc o).drew := fun o => hlook _ (blk_alloc' (W := W) hbw o); have hc4 : ∀ o, (W.alloc o).drew.cell? ⟨g, 0, none⟩ = some (.map (some b)) := fun o => (blk_cell (blk_alloc hgW o) 0).trans rfl; have hc5 : ∀ o, (W.drew.alloc o).cell? ⟨g, 0, none⟩ = some (.map (some b)) := fun o => (blk_cell (blk_alloc (w := W.drew) hgW o) 0).trans rfl; have HOWN := Aside0.mk hown; have HNB := Aside0.mk hnb; have HBACK := Aside0.mk hback; have HG := Aside0.mk hgW; have HBW := Aside0.mk hbw; clear hlook hown hnb hback hgW hGW hbw; go_region_law (refine Kd.R_append_step (Kd.int .u8) (w0 := W) (W := W.drew) base zq56 (.tmp 25) (.tmp 27) 74 46 (.int .u8 0) 1 zq56 Try.underlying74 info46 zq56 zq49 zq16 v0 (f (.int .i64 (n : Int))) x [.int .u8 (x : Int)] (fun _ => True) (fun _ => False) (by simp [Act.eval, Act.put]) (by simp [Act.eval, Act.put]) zq56 (fun _ hk => hk.elim) (fun _ _ => trivial) (Kd.R_of_own (h1 := fun _ => rfl) (ok := fun _ => True) (own_move HOWN.out (fun k hk => rfl)) (fun _ _ => trivial)) ⟨rfl, rfl, rfl, Nat.le_refl _, fun _ _ => rfl⟩ HBASE.out (by have := HLEN.out; omega) ?_; intro v1 w1 ho hb hg hat; have HO1 := Aside0.mk ho; have HB1 := Aside0.mk hb; have HGR := Aside0.mk hg; have HAT := Aside0.mk hat; clear ho hb hg hat; have hst := put_back (W := W.drew) rfl HBB.out HBW.out HOWN.out HNB.out HBACK.out HO1.out HGR.out HAT.out; obtain ⟨es', clock', hst, hG'⟩ := hst; have HGG := Aside0.mk hG'; clear hG'; have hcw1 : w1.cell? ⟨g, 0, none⟩ = some (.map (some b)) := (blk_cell ((HB1.out.block g HGB.out).trans HG.out) 0).trans rfl); all_goals (go_end0; have hs := below_setBlock (o := .map es' clock') (b := b) HB1.out HBB.out; exact ⟨rfl, .inr ⟨b, (hs.block g HGB.out).trans HG.out, HGG.out, HBB.out⟩, HKW.out.step hs⟩))
set_option maxHeartbeats 4000000 in
set_option maxRecDepth 100000 in
theorem put_none (g base : Nat) (n x : Int) (f : Value → List Int) (hf : f = fun _ => []) (w : World) (hg : w.heap[g]? = some (.cells #[.map none] 90 (0, 0))) (hgb : g < base) (hn : (Lit.int .i64 n).wf = true) (hbase : base ≤ w.heap.size) :
  Calls Try.prog 66 #[.pointer (some ⟨g, 0, none⟩), .int .i64 n, .int .u8 x] w fun e w' => e = .returned (.tuple #[]) ∧ ShelfIs w' base g (put1 f n x) ∧ KeptBut base g w w' := by
 have hc := (blk_cell hg 0).trans (rfl : _ = some (Value.map none))
 have heq := eqmap0
 have hmm := @run_makeMap Try.prog
 have hgs := blk_lt hg
 have hc1 : ∀ o, (w.alloc o).cell? ⟨g, 0, none⟩ = some (.map none) := fun o => (blk_cell (blk_alloc hg o) 0).trans rfl
 have hf1 : ∀ o, (w.alloc o).frozen? ⟨g, 0, none⟩ = false := fun o => blk_frozen (blk_alloc hg o) 0
 have HBB := Aside0.mk hbase
 have HGB := Aside0.mk hgb
 have HN := Aside0.mk hn
 obtain ⟨b, hbe⟩ : ∃ b, b = w.heap.size := ⟨_, rfl⟩
 have hG0 := (Groups.made (P := Try.prog) (kt := 3) (e := 46) (q := .u8) (w.setCell ⟨g, 0, none⟩ (.map (some b))) base)
 simp only [World.size_setCell] at hG0
 rw [← hbe] at hG0 HBB
 rw [← hf] at hG0
 have hG1 : Groups Try.prog 3 46 .u8 ((w.setCell ⟨g, 0, none⟩ (.map (some b))).alloc (.map #[] 0)) base b f := hG0
 have hg1 := blk_alloc (blk_put (cs' := #[.map (some b)]) hg 0 (.map (some b)) rfl) (.map #[] 0)
 have hk1 : KeptBut base g w ((w.setCell ⟨g, 0, none⟩ (.map (some b))).alloc (.map #[] 0)) := ⟨rfl, rfl, rfl, zq51, fun j hj hjg => by rw [Below.heap_alloc _ _ j (by simp only [World.size_setCell]; omega), Below.heap_setCell _ ⟨g, 0, none⟩ _ j hjg]⟩
 have HBASE := Aside0.mk (show base ≤ ((w.setCell ⟨g, 0, none⟩ (.map (some b))).alloc (.map #[] 0)).heap.size by simp; omega)
 have HG1 := Aside0.mk hG1
 have HGG1 := Aside0.mk hg1
 have HKW := Aside0.mk hk1
 clear hG0 hG1 hg1 hk1 hg hgb hn
 go_enter Try.func66, Try.ntmps66
 go_wp2
 rw [← hbe]
 generalize (w.setCell ⟨g, 0, none⟩ (.map (some b))).alloc (.map #[] 0) = W at HG1 HGG1 HKW HBASE ⊢
 have hgW := HGG1.out
 have hGW := HG1.out
 have HLEN : Aside0 ((f (Value.int .i64 n)).length ≤ 512) := ⟨by rw [hf]; simp⟩
 clear hbe hc1 hf1
 clear hf
 (have hbw := hGW.lt; obtain ⟨v0, hlook, hown, hnb, hback⟩ := hGW.update keyed3 Try.underlying88 zero74 (key3 n HN.out); have hc := (blk_cell hgW 0).trans (rfl : _ = some (Value.map (some b))); have hl0 := hlook W rfl; have hl1 : (Instr.lookup 88 (.map (some b)) (.int .i64 n) false).run Try.prog W.drew = .ok v0 W.drew := hlook W.drew rfl; have hl3 : ∀ o, (Instr.lookup 88 (.map (some b)) (.int .i64 n) false).run Try.prog (W.drew.alloc o) = .ok v0 (W.drew.alloc o) := fun o => hlook _ (blk_alloc' (W := W.drew) hbw o); have hl4 : ∀ o, (Instr.lookup 88 (.map (some b)) (.int .i64 n) false).run Try.prog (W.alloc o).drew = .ok v0 (W.alloc o).drew := fun o => hlook _ (blk_alloc' (W := W) hbw o); have hc4 : ∀ o, (W.alloc o).drew.cell? ⟨g, 0, none⟩ = some (.map (some b)) := fun o => (blk_cell (blk_alloc hgW o) 0).trans rfl; have hc5 : ∀ o, (W.drew.alloc o).cell? ⟨g, 0, none⟩ = some (.map (some b)) := fun o => (blk_cell (blk_alloc (w := W.drew) hgW o) 0).trans rfl; have HOWN := Aside0.mk hown; have HNB := Aside0.mk hnb; have HBACK := Aside0.mk hback; have HG := Aside0.mk hgW; have HBW := Aside0.mk hbw; clear hlook hown hnb hback hgW hGW hbw; go_region_law (refine Kd.R_append_step (Kd.int .u8) (w0 := W) (W := W.drew) base zq56 (.tmp 25) (.tmp 27) 74 46 (.int .u8 0) 1 zq56 Try.underlying74 info46 zq56 zq49 zq16 v0 (f (.int .i64 (n : Int))) x [.int .u8 (x : Int)] (fun _ => True) (fun _ => False) (by simp [Act.eval, Act.put]) (by simp [Act.eval, Act.put]) zq56 (fun _ hk => hk.elim) (fun _ _ => trivial) (Kd.R_of_own (h1 := fun _ => rfl) (ok := fun _ => True) (own_move HOWN.out (fun k hk => rfl)) (fun _ _ => trivial)) ⟨rfl, rfl, rfl, Nat.le_refl _, fun _ _ => rfl⟩ HBASE.out (by have := HLEN.out; omega) ?_; intro v1 w1 ho hb hg hat; have HO1 := Aside0.mk ho; have HB1 := Aside0.mk hb; have HGR := Aside0.mk hg; have HAT := Aside0.mk hat; clear ho hb hg hat; have hst := put_back (W := W.drew) rfl HBB.out HBW.out HOWN.out HNB.out HBACK.out HO1.out HGR.out HAT.out; obtain ⟨es', clock', hst, hG'⟩ := hst; have HGG := Aside0.mk hG'; clear hG'; have hcw1 : w1.cell? ⟨g, 0, none⟩ = some (.map (some b)) := (blk_cell ((HB1.out.block g HGB.out).trans HG.out) 0).trans rfl); all_goals (go_end0; have hs := below_setBlock (o := .map es' clock') (b := b) HB1.out HBB.out; exact ⟨rfl, .inr ⟨b, (hs.block g HGB.out).trans HG.out, HGG.out, HBB.out⟩, HKW.out.step hs⟩))
theorem put_calls (g base : Nat) (n x : Int) (f : Value → List Int) (w : World) (h : ShelfIs w base g f) (hgb : g < base) (hn : (Lit.int .i64 n).wf = true) (hbase : base ≤ w.heap.size) (hlen : (f (.int .i64 n)).length ≤ 512) :
  Calls Try.prog 66 #[.pointer (some ⟨g, 0, none⟩), .int .i64 n, .int .u8 x] w fun e w' => e = .returned (.tuple #[]) ∧ ShelfIs w' base g (put1 f n x) ∧ KeptBut base g w w' := by
 rcases h with ⟨h1, h2⟩ | ⟨b, h1, h2, h3⟩
 ·exact put_none g base n x f h2 w h1 hgb hn hbase
 ·exact put_some g b base n x f w h1 h2 h3 hgb hn hbase hlen
theorem Below.kept {B base g : Nat} {w W W' : World} (h : Below B w W) (k : KeptBut base g W W') (h1 : B ≤ base) (h2 : B ≤ g) : Below B w W' :=
 ⟨k.os.trans h.os, k.tape.trans h.tape, k.output.trans h.output, Nat.le_trans h.size k.size, fun j hj => (k.block j zq16 zq16).trans (h.block j hj)⟩
def keptB (l : List S45) (i : Nat) : Bool := ((l.getD i z45).f1 == 1) && !(l.getD i z45).f6
def shelfP (every : Int) (fl : List S58) (st : List S56) (l : List S45) : Nat → Value → List Int
 | 0 => fun _ => []
 | i + 1 => if keptB l i = true then put1 (shelfP every fl st l i) (l.getD i z45).f2 (vdS every fl st l i) else shelfP every fl st l i
theorem shelfP_len (every : Int) (fl : List S58) (st : List S56) (l : List S45) (k : Value) : ∀ i, (shelfP every fl st l i k).length ≤ i
 | 0 => by simp [shelfP]
 | i + 1 => by
  have := shelfP_len every fl st l k i
  unfold shelfP
  split
  ·unfold put1
   split
   ·simp; omega
   ·omega
  ·omega
theorem Valid.lot {every : Int} {fl : List S58} {st : List S56} {l : List S45} (h : Valid every fl st l) (n : Nat) (hk : (l.getD n z45).f1 = 1) : 0 ≤ (l.getD n z45).f2 ∧ (l.getD n z45).f2 ≤ 1000000 := by
 by_cases hn : n < l.length
 ·have he := (h.run n hn).2.2.2
  unfold entErr at he
  rw [if_pos hk] at he
  split at he
  ·exact absurd he zq49
  ·rename_i h1
   exact win_true (by simpa using h1)
 ·rw [List.getD_eq_getElem?_getD, List.getElem?_eq_none zq16] at hk
  exact absurd hk zq49
set_option maxHeartbeats 4000000 in
set_option maxRecDepth 100000 in
theorem inspect_lots.calls (a0_0 : Int) (A0_1 : Option Addr) (c0_1 : Nat) (l0_1 : List S58) (A0_2 : Option Addr) (c0_2 : Nat) (l0_2 : List S56) (A1 : Option Addr) (c1 : Nat) (l1 : List S45) (w : World)
  (hr0_1 : Kd.C k58 w A0_1 l0_1.length l0_1) (hc0_1 : l0_1.length ≤ c0_1) (hr0_2 : Kd.C k56 w A0_2 l0_2.length l0_2) (hc0_2 : l0_2.length ≤ c0_2) (hr1 : Kd.C k45 w A1 l1.length l1) (hv : Valid a0_0 l0_1 l0_2 l1) :
  Calls Try.prog 43 #[.agg #[.int .i64 a0_0, .slice A0_1 l0_1.length c0_1, .slice A0_2 l0_2.length c0_2], .slice A1 l1.length c1] w fun e w' =>
   ∃ mv base, e = .returned (.agg #[mv]) ∧ (mv = .map none ∧ shelfP a0_0 l0_1 l0_2 l1 l1.length = (fun _ => []) ∨ ∃ b, mv = .map (some b) ∧ Groups Try.prog 3 46 .u8 w' base b (shelfP a0_0 l0_1 l0_2 l1 l1.length)) ∧ Below w.heap.size w w' := by
 have hb1 := (((Below.refl w.heap.size w).alloc (Nat.le_refl _) (.cells #[.int .i64 a0_0, .slice A0_1 l0_1.length c0_1, .slice A0_2 l0_2.length c0_2] 25)).alloc zq51 (.cells #[.map none] 90)).alloc (by simp; omega) (.cells #[.map none] 90)
 have hop := opened_valid a0_0 A0_1 c0_1 l0_1 A0_2 c0_2 l0_2 A1 c1 l1 w hr0_1 hc0_1 hr0_2 hc0_2 hr1 hv _ hb1
 have hvd := fun b W (hD : Desk W A0_1 c0_1 l0_1 A0_2 c0_2 l0_2 A1 c1 l1 b) => inspect_verdicts.calls a0_0 A0_1 c0_1 l0_1 A0_2 c0_2 l0_2 A1 c1 l1 b W hD
 have HB1 := Aside0.mk hb1
 have hr1' := blk_new ((w.alloc (.cells #[.int .i64 a0_0, .slice A0_1 l0_1.length c0_1, .slice A0_2 l0_2.length c0_2] 25))) (.cells #[.map none] 90)
 simp only [World.size_alloc] at hr1'
 have HR1 := Aside0.mk (blk_alloc hr1' (.cells #[.map none] 90))
 have hs1' := blk_new (((w.alloc (.cells #[.int .i64 a0_0, .slice A0_1 l0_1.length c0_1, .slice A0_2 l0_2.length c0_2] 25))).alloc (.cells #[.map none] 90)) (.cells #[.map none] 90)
 simp only [World.size_alloc] at hs1'
 have HS1 := Aside0.mk hs1'
 have HV := Aside0.mk hv
 have HL1 := Aside0.mk hr1
 clear hb1 hr1' hs1' hv hr0_1 hr0_2 hr1
 go_enter Try.func43, Try.ntmps43
 go_wp2_with (first
  | (go_at_call 32; (with_reducible refine hop.mono ?_); rintro e w3 ⟨b, rfl, hD, hb⟩; have HB3 := Aside0.mk (below_step HB1.out hb); have HR3 := Aside0.mk (blk_below HR1.out hb); have HS3 := Aside0.mk (blk_below HS1.out hb); have HDK := Aside0.mk hD; clear hb hD)
  | (go_at_call 33; (with_reducible refine (hvd _ _ HDK.out).mono ?_); rintro e w4 ⟨g, rfl, ho, hb⟩; have HB4 := Aside0.mk (below_step HB3.out hb); have HR4 := Aside0.mk (blk_below HR3.out hb); have HS4 := Aside0.mk (blk_below HS3.out hb); have HO4 := Aside0.mk (own_weaken ho HB3.out.size); clear hb ho))
 have HGB := Aside0.mk (blk_lt HS4.out)
 have HOB := Aside0.mk (own_lt HO4.out g rfl)
 have HOG := Aside0.mk (show g ≠ w.heap.size + 1 + 1 from fun e => own_ne_cells HO4.out HS4.out zq49 (by rw [e]; rfl))
 go_loopg [13] l1.length (fun gg s13 wr => ∃ i : Nat, s13 = .int .i64 (i : Int) ∧ Aside0 (i ≤ l1.length ∧ l1.length - i ≤ gg) ∧ Aside0 (Below w.heap.size w wr) ∧
  Aside0 (wr.heap[w.heap.size + 1]? = some (.cells #[.map none] 90 (0, 0))) ∧ Aside0 (ShelfIs wr w4.heap.size (w.heap.size + 1 + 1) (shelfP a0_0 l0_1 l0_2 l1 i)) ∧ Aside0 (w4.heap.size ≤ wr.heap.size) ∧
  Aside0 (wr.ownsRow w.heap.size 46 1 (.slice (some ⟨g, 0, none⟩) l1.length l1.length) l1.length (nums .u8 (verdP a0_0 l0_1 l0_2 l1 l1.length))))
 case atStart => exact ⟨0, rfl, ⟨zq16, zq16⟩, HB4, HR4, ⟨.inl ⟨HS4.out, rfl⟩⟩, ⟨Nat.le_refl _⟩, HO4⟩
 case round =>
  obtain ⟨i, rfl, hi, HB, HR, HS, HSZ, HO⟩ := hrel
  by_cases hlt : i < l1.length
  ·have hlt' : (i : Int) < (l1.length : Int) := by omega
   have hb0 : decide (i < l1.length) = true := decide_eq_true hlt
   have hq0 : 0 ≤ (i : Int) := by omega
   have hq1 : (i : Int) ≤ 511 := by have := HV.out.len; omega
   have hca := (own_at HO.out (i : Int) hq0 hlt').1
   have hgv : rd (verdP a0_0 l0_1 l0_2 l1 l1.length) (i : Int) = vdS a0_0 l0_1 l0_2 l1 i := by
    have := verdP_get a0_0 l0_1 l0_2 l1 l1.length i hlt
    unfold rd
    rw [Int.toNat_natCast]
    exact this
   rw [hgv, Int.toNat_natCast] at hca
   clear hgv
   obtain ⟨ad, e, hx0, hx1, hx2, hx3, hx4, hx5, hx6⟩ := at_T45 HL1.out (i : Int) hq0 hlt'
   cases e
   replace hx1 := hcx HB.out hx1
   replace hx2 := hcx HB.out hx2
   replace hx6 := hcx HB.out hx6
   simp only [Int.toNat_natCast] at hx1 hx2 hx6
   clear hx0 hx3 hx4 hx5
   have hsh : shelfP a0_0 l0_1 l0_2 l1 (i + 1) = if ((rd_T45 l1 (i : Int)).f1 == 1 && !(rd_T45 l1 (i : Int)).f6) = true then put1 (shelfP a0_0 l0_1 l0_2 l1 i) (rd_T45 l1 (i : Int)).f2 (vdS a0_0 l0_1 l0_2 l1 i) else shelfP a0_0 l0_1 l0_2 l1 i := rfl
   have hlot := HV.out.lot i
   have hlot' : (rd_T45 l1 (i : Int)).f1 = 1 → 0 ≤ (rd_T45 l1 (i : Int)).f2 ∧ (rd_T45 l1 (i : Int)).f2 ≤ 1000000 := hlot
   clear hlot
   generalize rd_T45 l1 (i : Int) = x at hx1 hx2 hx6 hsh hlot'
   have HSH := Aside0.mk hsh
   clear hsh
   by_cases hk : x.f1 = 1
   ·have hkb : (x.f1 == 1) = true := by simp [hk]
    cases ho : x.f6 with
    | true =>
     have HN := Aside0.mk (show shelfP a0_0 l0_1 l0_2 l1 (i + 1) = shelfP a0_0 l0_1 l0_2 l1 i from by rw [HSH.out, ho, hkb]; rfl)
     rw [ho] at hx6
     clear hk hlot' ho
     go_wp2
     go_roundg (l1.length - (i + 1))
     case measure => have := hi.out; omega
     case rel => exact ⟨i + 1, zq70, ⟨zq16⟩, HB, HR, ⟨by rw [HN.out]; exact HS.out⟩, HSZ, HO⟩
    | false =>
     have HN := Aside0.mk (show shelfP a0_0 l0_1 l0_2 l1 (i + 1) = put1 (shelfP a0_0 l0_1 l0_2 l1 i) x.f2 (vdS a0_0 l0_1 l0_2 l1 i) from by rw [HSH.out, ho, hkb]; rfl)
     rw [ho] at hx6
     have hl2 := hlot' hk
     have hput := put_calls (w.heap.size + 1 + 1) w4.heap.size x.f2 (vdS a0_0 l0_1 l0_2 l1 i) (shelfP a0_0 l0_1 l0_2 l1 i) wr HS.out HGB.out (small_wf _ zq16 zq16) HSZ.out (by have := shelfP_len a0_0 l0_1 l0_2 l1 (.int .i64 x.f2) i; omega)
     clear hk hlot' ho hl2
     go_wp2_with (go_at_call 66; (with_reducible refine hput.mono ?_); rintro e wc ⟨rfl, hs, hkb⟩; have HSc := Aside0.mk hs; have HK := Aside0.mk hkb; clear hs hkb)
     go_roundg (l1.length - (i + 1))
     case measure => have := hi.out; omega
     case rel => exact ⟨i + 1, zq70, ⟨zq16⟩, ⟨Below.kept HB.out HK.out HB4.out.size zq16⟩, ⟨(HK.out.block _ (by have := HGB.out; omega) zq16).trans HR.out⟩, ⟨by rw [HN.out]; exact HSc.out⟩, ⟨Nat.le_trans HSZ.out HK.out.size⟩, ⟨own_move HO.out (fun k hk => by cases hk; exact HK.out.block g HOB.out HOG.out)⟩⟩
   ·have hkb : (x.f1 == 1) = false := by simp [hk]
    have HN := Aside0.mk (show shelfP a0_0 l0_1 l0_2 l1 (i + 1) = shelfP a0_0 l0_1 l0_2 l1 i from by rw [HSH.out, hkb]; rfl)
    clear hk hlot'
    go_wp2
    go_roundg (l1.length - (i + 1))
    case measure => have := hi.out; omega
    case rel => exact ⟨i + 1, zq70, ⟨zq16⟩, HB, HR, ⟨by rw [HN.out]; exact HS.out⟩, HSZ, HO⟩
  ·have hlen : i = l1.length := by have := hi.out; omega
   have hb0 : decide (i < l1.length) = false := decide_eq_false hlt
   subst hlen
   clear hlt
   have hr0 := (blk_cell HR.out 0).trans (rfl : _ = some (Value.map none))
   have hf0 := blk_frozen HR.out 0
   rcases HS.out with ⟨h1, h2⟩ | ⟨b2, h1, h2, h3⟩
   ·have hs0 := (blk_cell h1 0).trans (rfl : _ = some (Value.map none))
    have H2 := Aside0.mk h2
    clear h1 h2
    go_wp2
    have e1 := blk_put (cs' := #[.map none]) HR.out 0 (.map none) rfl
    refine bodyPost_ret (results_cell_row rfl _ _ (w.heap.size + 1) 90 #[.map none] (0, 0) _ rfl e1 Try.underlying90 rfl zq23) rfl ⟨.map none, 0, rfl, .inl ⟨rfl, H2.out⟩, ?_⟩
    exact HB.out.setCell (p := ⟨w.heap.size + 1, 0, none⟩) zq51 _
   ·have hs0 := (blk_cell h1 0).trans (rfl : _ = some (Value.map (some b2)))
    have H2 := Aside0.mk h2
    have H3 := Aside0.mk h3
    clear h1 h2 h3
    go_wp2
    have e1 := blk_put (cs' := #[.map (some b2)]) HR.out 0 (.map (some b2)) rfl
    refine bodyPost_ret (results_cell_row rfl _ _ (w.heap.size + 1) 90 #[.map (some b2)] (0, 0) _ rfl e1 Try.underlying90 rfl zq23) rfl ⟨.map (some b2), w4.heap.size, rfl, .inr ⟨b2, rfl, ?_⟩, ?_⟩
    ·exact H2.out.move (Below.heap_setCell _ ⟨w.heap.size + 1, 0, none⟩ _ b2 (by have := H3.out; have := HGB.out; simp only; omega)) (fun j hj _ => Below.heap_setCell _ ⟨w.heap.size + 1, 0, none⟩ _ j (by have := HGB.out; simp only; omega))
    ·exact HB.out.setCell (p := ⟨w.heap.size + 1, 0, none⟩) zq51 _
end Go.Proofs.Ytbpebehbfpgjbaa.P
end
section
namespace Go.Proofs.Ytbpebehbfpgjbaa.P
open Go.RowKit Go.Proofs.YtbpebehbfpgjbaaW.PrintWords Go.Proofs.YtbpebehbfpgjbaaW.PrintLast Go.Proofs.YtbpebehbfpgjbaaW.PrintMore
set_option linter.unusedVariables false
set_option linter.unusedSimpArgs false
open GM
open Go.ChangeMaps (setBlock)
theorem nodup_le : ∀ (l m : List Int), l.Nodup → (∀ x ∈ l, x ∈ m) → l.length ≤ m.length
 | [], m, _, _ => Nat.zero_le _
 | a :: l, m, h, hs => by
  rw [List.nodup_cons] at h
  have ha : a ∈ m := hs a zq51
  have h1 := nodup_le l (m.erase a) h.2 (fun x hx => (List.mem_erase_of_ne (fun (e : x = a) => h.1 (by rw [← e]; exact hx))).2 (hs x (by simp [hx])))
  have h2 := List.length_erase_of_mem ha
  have h3 : 0 < m.length := List.length_pos_of_mem ha
  simp only [List.length_cons]
  omega
theorem sort_own {W : World} {base : Nat} {v : Value} {zs : List Int} (h : W.ownsRow base 3 1 v zs.length (nums .i64 zs)) (hsz : zs.length ≤ 1000) :
  Calls Try.prog 67 #[v] W fun e w' => e = .returned (.tuple #[]) ∧ w'.ownsRow base 3 1 v zs.length (nums .i64 (zs.mergeSort (fun x y => decide (x ≤ y)))) ∧ W.grownBy w' v.ownBlock := by
 rcases h.2 with ⟨h1, h2⟩ | ⟨g, cap, cur, rfl, hb, hg, hn, hm, hs, ht⟩
 ·have h0 : zs = [] := by simpa using h2
  subst h0
  rw [h1]
  exact (Try.slices_Sort_int_none none 0 W).mono (by
   rintro e w' ⟨rfl, rfl⟩
   refine ⟨rfl, ?_, ⟨rfl, rfl, rfl, Nat.le_refl _, fun _ _ _ => rfl⟩⟩
   rw [h1] at h
   simpa using h)
 ·have hgl : g < W.heap.size := blk_lt hg
  have ht' : cur.toList.take zs.length = zs.map (Value.int .i64) := by rw [Nat.mul_one] at ht; exact ht
  refine (Try.slices_Sort_int g 0 cap zs W (holds_of_blockI hg ht') hgl zq16).mono ?_
  rintro e w' ⟨rfl, n, os, rfl⟩
  refine ⟨rfl, ?_, grownBy_sortedI _⟩
  have := ownsRow_sortedI (w := W) (base := base) (g := g) (cap := cap) (n := n) (e := 3) (os := os) (cur := cur) (ss := zs) (ts := zs.mergeSort (fun x y => decide (x ≤ y))) (List.length_mergeSort _) hb hg hn hm hs
  exact this
theorem sorted_lt {zs : List Int} (h : zs.Nodup) : (zs.mergeSort (fun x y => decide (x ≤ y))).Pairwise (· < ·) := by
 have h1 := List.pairwise_mergeSort (le := fun x y : Int => decide (x ≤ y)) (fun a b c h1 h2 => by simp at *; omega) (fun a b => by simp; omega) zs
 have h2 : (zs.mergeSort (fun x y => decide (x ≤ y))).Nodup := (List.mergeSort_perm zs _).nodup_iff.2 h
 rw [List.nodup_iff_pairwise_ne] at h2
 refine (h1.and h2).imp ?_
 rintro a b ⟨h3, h4⟩
 have h3 := of_decide_eq_true h3
 omega
def Handed0 (es : Array MapEntry) (seen : Array Nat) (ks : List Int) : Prop := ks.Nodup ∧ (∀ n, n ∈ ks ↔ ∃ x ∈ es.toList, x.key = .int .i64 n ∧ seen.contains x.born = true) ∧ ks.length + (leftOf es seen).size ≤ es.size
theorem Handed0.start (es : Array MapEntry) : Handed0 es #[] [] := ⟨List.nodup_nil, fun n => by simp, by unfold leftOf; simpa using Array.size_filter_le⟩
theorem Handed0.step {es : Array MapEntry} {seen : Array Nat} {ks : List Int} {e : MapEntry} {n : Int} (h : Handed0 es seen ks) (he : e ∈ (leftOf es seen).toList) (hk : e.key = .int .i64 n) (hkeys : (es.toList.map (·.key)).Nodup) (hborn : (es.toList.map (·.born)).Nodup) : Handed0 es (seen.push e.born) (ks ++ [n]) := by
 obtain ⟨h1, h2, h3⟩ := h
 obtain ⟨m1, m2⟩ := mem_left he
 have hnot : n ∉ ks := fun hn => by
  obtain ⟨x, hx, hxk, hxs⟩ := (h2 n).1 hn
  have : x = e := inj_of_nodup_map hkeys hx m1 (by rw [hxk, hk])
  subst this
  rw [hxs] at m2
  cases m2
 refine ⟨?_, fun m => ?_, ?_⟩
 ·rw [List.nodup_append]
  exact ⟨h1, zq51, fun a ha b hb => by simp at hb; subst hb; exact fun e => hnot (e ▸ ha)⟩
 ·rw [List.mem_append, h2 m]
  constructor
  ·rintro (⟨x, hx, hxk, hxs⟩ | hm)
   ·exact ⟨x, hx, hxk, by simp at hxs ⊢; exact .inl hxs⟩
   ·simp at hm
    subst hm
    exact ⟨e, m1, hk, zq51⟩
  ·rintro ⟨x, hx, hxk, hxs⟩
   simp only [Array.contains_push, Bool.or_eq_true] at hxs
   by_cases hxe : x = e
   ·subst hxe
    rw [hxk] at hk
    cases hk
    exact .inr zq51
   ·refine .inl ⟨x, hx, hxk, ?_⟩
    rcases hxs with hxs | hxs
    ·exact hxs
    ·exact absurd (inj_of_nodup_map hborn hx m1 (by simpa using hxs)) hxe
 ·have := left_shrinks es seen e he
  simp
  omega
set_option maxHeartbeats 4000000 in
set_option maxRecDepth 100000 in
theorem inspect_numbers.calls (g : Nat) (mv : Value) (base : Nat) (f : Value → List Int) (L : List Int) (w : World) (hg : w.heap[g]? = some (.cells #[mv] 90 (0, 0))) (hm : mv = .map none ∧ f = (fun _ => []) ∨ ∃ b, mv = .map (some b) ∧ Groups Try.prog 3 46 .u8 w base b f)
  (hL : L.length ≤ 512) (hbd : ∀ key, f key ≠ [] → ∃ n ∈ L, key = .int .i64 n) :
  Calls Try.prog 44 #[.pointer (some ⟨g, 0, none⟩)] w fun e w' => ∃ v zs, e = .returned v ∧ w'.ownsRow w.heap.size 3 1 v zs.length (nums .i64 zs) ∧ zs.length ≤ 512 ∧ zs.Pairwise (· < ·) ∧ (∀ n : Int, n ∈ zs ↔ f (.int .i64 n) ≠ []) ∧ Below w.heap.size w w' := by
 rcases hm with ⟨rfl, hf⟩ | ⟨b, rfl, hG⟩
 ·have hc := (blk_cell hg 0).trans (rfl : _ = some (Value.map none))
  have hrg := run_range_nilMap (P := Try.prog) w 88 3 74 Try.underlying88
  have hnx := fun ty => run_next_nilMap (P := Try.prog) w ty 0 0 #[]
  have hso := Try.slices_Sort_int_none none 0
  have hb := (Below.refl w.heap.size w).alloc (Nat.le_refl _) (.mapIter none 0 #[] 0)
  have HB := Aside0.mk hb
  clear hb hg
  go_enter Try.func44, Try.ntmps44
  go_wp2
  go_loopg [3] 1 (fun gg s3 wr => s3 = .slice none 0 0 ∧ wr = w.alloc (.mapIter none 0 #[] 0))
  case atStart => exact ⟨rfl, rfl⟩
  case round =>
   obtain ⟨rfl, rfl⟩ := hrel
   go_wp2_with (go_at_call 67; (with_reducible refine (hso _).mono ?_); rintro e wc ⟨rfl, rfl⟩)
   go_ret
   refine ⟨_, [], rfl, own_nil _ _ _ _, zq51, List.Pairwise.nil, fun n => ?_, HB.out⟩
   rw [hf]
   simp
 ·have hc := (blk_cell hg 0).trans (rfl : _ = some (Value.map (some b)))
  obtain ⟨es, clock, h1, ⟨s1, s2, s3⟩, h3, h4, h5⟩ := hG
  have hrg := run_range_map (P := Try.prog) w 88 3 74 b es clock Try.underlying88 h1
  have HB0 := Aside0.mk ((Below.refl w.heap.size w).alloc (Nat.le_refl _) (.mapIter (some b) clock #[] clock))
  have HI0 := Aside0.mk (blk_new w (.mapIter (some b) clock #[] clock))
  have HM0 := Aside0.mk (blk_alloc h1 (.mapIter (some b) clock #[] clock))
  have hbl := blk_lt h1
  have HKEYS : Aside0 (∀ x ∈ es.toList, ∃ n : Int, x.key = .int .i64 n ∧ n ∈ L ∧ f x.key ≠ []) := ⟨fun x hx => by
   obtain ⟨_, h6, _⟩ := h3 x hx
   obtain ⟨n, hn, he⟩ := hbd x.key h6
   exact ⟨n, he, hn, h6⟩⟩
  have HMEM : Aside0 (∀ n : Int, f (.int .i64 n) ≠ [] → ∃ x ∈ es.toList, x.key = .int .i64 n) := ⟨fun n hn => h4 _ hn⟩
  have HBORN := Aside0.mk s1
  have HS2 := Aside0.mk s2
  have HS3 := Aside0.mk s3
  have HLL := Aside0.mk hL
  have HBL := Aside0.mk hbl
  clear h1 s1 s2 s3 h3 h4 h5 hg hbd hbl
  go_enter Try.func44, Try.ntmps44
  go_wp2
  go_loopg [3] (es.size + 1) (fun gg s3 wr => ∃ (v3 : Value) (ks : List Int) (seen : Array Nat) (c0 : Nat), v3 = s3 ∧ Aside0 (Handed0 es seen ks ∧ (leftOf es seen).size + 1 ≤ gg ∧ clock ≤ c0) ∧ Aside0 (Below w.heap.size w wr) ∧ Aside0 (wr.heap[b]? = some (.map es clock)) ∧
   Aside0 (wr.heap[w.heap.size]? = some (.mapIter (some b) clock seen c0)) ∧ Aside0 (Kd.R (Kd.int .i64) 3 wr (w.heap.size + 1) (fun _ => True) v3 ks))
  case atStart =>
   have h0 := Handed0.start es
   exact ⟨_, [], #[], clock, rfl, ⟨h0, by have := h0.2.2; omega, Nat.le_refl _⟩, HB0, HM0, HI0, ⟨Kd.R_nil _ _ _ _ _⟩⟩
  case round =>
   obtain ⟨v3, ks, seen, c0, rfl, hi, HB, HM, HI, HR⟩ := hrel
   clear hrg
   have hks : ks.length ≤ 512 := Nat.le_trans (nodup_le ks L hi.out.1.1 (fun n hn => by
    obtain ⟨x, hx, hxk, _⟩ := (hi.out.1.2.1 n).1 hn
    obtain ⟨m, hm, hmL, _⟩ := HKEYS.out x hx
    rw [hxk] at hm
    cases hm
    exact hmL)) HLL.out
   have HKL := Aside0.mk hks
   clear hks
   rcases run_next_at (P := Try.prog) wr 0 w.heap.size b clock c0 seen es clock HI.out HM.out HBORN.out hi.out.2.2 with ⟨hz, hn⟩ | ⟨e, he, w1, hw1, hn⟩
   ·have hown := Kd.own_of_R HR.out
    have hsrt := sort_own hown (by have := HKL.out; omega)
    have HOWN := Aside0.mk hown
    have HZ := Aside0.mk hz
    clear hown hz
    go_wp2_with (go_at_call 67; (with_reducible refine hsrt.mono ?_); rintro e wc ⟨rfl, ho, hgr⟩; have HO := Aside0.mk ho; have HGR := Aside0.mk hgr; clear ho hgr)
    go_ret
    have hlen : (ks.mergeSort (fun x y => decide (x ≤ y))).length = ks.length := List.length_mergeSort _
    refine ⟨v3, ks.mergeSort (fun x y => decide (x ≤ y)), rfl, ?_, by rw [hlen]; exact HKL.out, sorted_lt hi.out.1.1, fun n => ?_, HB.out.grown HGR.out HB.out.size (fun k hk => by have := own_base HOWN.out k hk; omega)⟩
    ·rw [hlen]
     exact own_weaken HO.out zq16
    ·rw [List.mem_mergeSort, hi.out.1.2.1 n]
     constructor
     ·rintro ⟨x, hx, hxk, _⟩
      obtain ⟨_, _, _, hf⟩ := HKEYS.out x hx
      rwa [hxk] at hf
     ·intro hn
      obtain ⟨x, hx, hxk⟩ := HMEM.out n hn
      exact ⟨x, hx, hxk, all_seen es seen HZ.out x hx⟩
   ·obtain ⟨m1, m2⟩ := mem_left he
    obtain ⟨n, hk, hnL, hfn⟩ := HKEYS.out e m1
    have hstep := hi.out.1.step he hk HS3.out HS2.out
    have hshr := left_shrinks es seen e he
    have hw1h : w1.heap = wr.heap := by rcases hw1 with rfl | rfl <;> rfl
    have hw1b : Below w.heap.size w w1 := by
     rcases hw1 with rfl | rfl
     ·exact HB.out
     ·exact HB.out.drew
    have hi1 : w1.heap[w.heap.size]? = some (.mapIter (some b) clock seen c0) := by rw [hw1h]; exact HI.out
    have hB2 := below_setBlock (o := .mapIter (some b) clock (seen.push e.born) clock) (b := w.heap.size) hw1b (Nat.le_refl _)
    have hother : ∀ k, k ≠ w.heap.size → (setBlock w1 w.heap.size (.mapIter (some b) clock (seen.push e.born) clock)).heap[k]? = wr.heap[k]? := fun k hk => by
     simp only [setBlock]
     rw [Array.getElem?_setIfInBounds_ne zq16, hw1h]
    have hM2 := (hother b (by have := HBL.out; omega)).trans HM.out
    have hI2 : (setBlock w1 w.heap.size (.mapIter (some b) clock (seen.push e.born) clock)).heap[w.heap.size]? = some (.mapIter (some b) clock (seen.push e.born) clock) := by
     simp only [setBlock]
     rw [Array.getElem?_setIfInBounds_self_of_lt (blk_lt hi1)]
    have hR2 := Kd.R_mono (ok' := fun _ => True) (Kd.R_move (w1 := setBlock w1 w.heap.size (.mapIter (some b) clock (seen.push e.born) clock)) (Kd.R_bound HR.out) (fun k hk => hother k (by have := hk.2.1; omega))) (fun _ _ => trivial)
    generalize setBlock w1 w.heap.size (.mapIter (some b) clock (seen.push e.born) clock) = W2 at hn hB2 hM2 hI2 hR2
    have hen := run_entry_at (P := Try.prog) W2 w.heap.size b clock seen es clock e hI2 hM2 m1 HS2.out
    rw [hk] at hn hen
    obtain ⟨inner, hin⟩ := Kd.R_own hR2
    have HIN := Aside0.mk hin
    have HB2 := Aside0.mk hB2
    have HM2 := Aside0.mk hM2
    have HI2 := Aside0.mk hI2
    have HR2 := Aside0.mk hR2
    have HST := Aside0.mk (And.intro hstep (And.intro hshr hi.out.2))
    clear hin hB2 hM2 hI2 hR2 hstep hshr hother hi1 hw1b hw1h hw1 he m1 m2 hk hnL hfn
    go_wp2_with (((with_reducible refine gate_dst (N := 17) rfl ?_); go_must (refine Kd.R_append (Kd.int .i64) (w0 := W2) (W := W2) (w.heap.size + 1) rfl (.tmp 14) (.tmp 16) 29 3 (.int .i64 0) 8 rfl Try.underlying29 info3 rfl zq49 zq16 v3 ks n [.int .i64 n] (fun _ => True) (fun _ => False) rfl rfl rfl (fun _ hk => hk.elim) (fun _ _ => trivial) HR2.out (Below.refl _ _) (blk_lt HI2.out) ?aL ?_); (case aL => have := HKL.out; omega); intro v1 wc ho hb hg hat; have HR3 := Aside0.mk ho; have HB3 := Aside0.mk hb; have HGR := Aside0.mk hg; clear ho hb hg hat))
    have hne : ∀ k, k < w.heap.size + 1 → some k ≠ v3.ownBlock := fun k hk e => by have := own_base HIN.out k e.symm; omega
    go_roundg ((leftOf es (seen.push e.born)).size + 1)
    case measure => have := HST.out.2; omega
    case rel => exact ⟨v1, ks ++ [n], seen.push e.born, clock, rfl, ⟨HST.out.1, zq16, Nat.le_refl _⟩, ⟨HB2.out.trans (HB3.out.mono zq16)⟩, ⟨(HGR.out.block b (blk_lt HM2.out) (hne b (by have := HBL.out; omega))).trans HM2.out⟩, ⟨(HGR.out.block w.heap.size (blk_lt HI2.out) (hne _ zq16)).trans HI2.out⟩, HR3⟩
set_option maxHeartbeats 4000000 in
set_option maxRecDepth 100000 in
theorem index_u8 (A : Option Addr) (c : Nat) (xs : List Int) (x : Int) (w : World) (hr : Kd.C (Kd.int .u8) w A xs.length xs) (hl : xs.length ≤ 512) :
  Calls Try.prog 83 #[.slice A xs.length c, .int .u8 x] w fun e w' => e = .returned (.int .i64 (idxOf (fun y => y == x) xs)) ∧ w' = w := by
 have HR := Aside0.mk hr
 have HL := Aside0.mk hl
 clear hr hl
 go_enter Try.func83, Try.ntmps83
 go_wp2
 go_loopg [8] xs.length (fun gg s8 wr => ∃ i : Nat, s8 = .int .i64 (i : Int) ∧ wr = w ∧ Aside0 (i ≤ xs.length ∧ xs.length - i ≤ gg ∧ ∀ j, j < i → (xs.getD j 0 == x) = false))
 case atStart => exact ⟨0, rfl, rfl, ⟨zq16, zq16, fun j hj => by omega⟩⟩
 case round =>
  obtain ⟨i, rfl, rfl, hi⟩ := hrel
  by_cases hlt : i < xs.length
  ·have hlt' : (i : Int) < (xs.length : Int) := by omega
   have hb0 : decide (i < xs.length) = true := decide_eq_true hlt
   have hq0 : 0 ≤ (i : Int) := by omega
   have hq1 : (i : Int) ≤ 511 := by have := HL.out; omega
   obtain ⟨ad, cs, rfl, _, hK, hc0⟩ := Kd.C_get HR.out (0 : Int) (i : Int) hq0 hlt'
   obtain rfl : cs = [.int .u8 (xs.getD (i : Int).toNat 0)] := hK
   have hx := hc0 0 _ rfl
   simp only [show (Kd.int .u8).sz = 1 from rfl, Nat.mul_one, Nat.add_zero, Int.toNat_natCast] at hx
   clear hc0
   by_cases he : xs.getD i 0 = x
   ·have hidx : idxOf (fun y => y == x) xs = (i : Int) := idxOf_hit _ 0 xs i hlt hi.out.2.2 (by simpa using he)
    rw [he] at hx
    have HI := Aside0.mk hidx
    clear hidx he
    go_wp2
    go_ret
    exact ⟨by rw [HI.out]; rfl, rfl⟩
   ·have heb : (x == xs.getD i 0) = false := by simp; exact fun e => he e.symm
    have HN := Aside0.mk he
    generalize hy : xs.getD i 0 = y at hx heb
    have HY := Aside0.mk hy
    clear he hy
    go_wp2
    go_roundg (xs.length - (i + 1))
    case measure => have := hi.out; omega
    case rel =>
     refine ⟨i + 1, zq70, rfl, ⟨zq16, zq16, fun j hj => ?_⟩⟩
     by_cases hj' : j = i
     ·subst hj'; simpa using HN.out
     ·exact hi.out.2.2 j zq16
  ·have hlen : i = xs.length := by have := hi.out; omega
   have hb0 : decide (i < xs.length) = false := decide_eq_false hlt
   have hidx : idxOf (fun y => y == x) xs = -1 := idxOf_miss _ 0 xs (fun j hj => hi.out.2.2 j zq16)
   have HI := Aside0.mk hidx
   clear hidx hlen
   go_wp2
   go_ret
   exact ⟨by rw [HI.out]; rfl, rfl⟩
set_option maxHeartbeats 4000000 in
theorem contains_u8 (A : Option Addr) (c : Nat) (xs : List Int) (x : Int) (w : World) (hr : Kd.C (Kd.int .u8) w A xs.length xs) (hl : xs.length ≤ 512) :
  Calls Try.prog 68 #[.slice A xs.length c, .int .u8 x] w fun e w' => e = .returned (.bool (xs.any (fun y => y == x))) ∧ w' = w := by
 have hi := index_u8 A c xs x w hr hl
 have ha := idxOf_any (fun y => y == x) xs
 generalize idxOf (fun y => y == x) xs = k at hi ha
 rw [← ha]
 clear ha hr
 go_enter Try.func68, Try.ntmps68
 go_wp2_with (go_at_call 83; (with_reducible refine hi.mono ?_); rintro e w1 ⟨rfl, rfl⟩)
 go_ret
 exact ⟨rfl, rfl⟩
def stateS (xs : List Int) : Int := if xs.any (fun y => y == 3) = true then 3 else if xs.any (fun y => y == 0) = true then 0 else 2
set_option maxHeartbeats 4000000 in
theorem inspect_state.calls (A : Option Addr) (c : Nat) (xs : List Int) (w : World) (hr : Kd.C (Kd.int .u8) w A xs.length xs) (hl : xs.length ≤ 512) :
  Calls Try.prog 45 #[.slice A xs.length c] w fun e w' => e = .returned (.int .u8 (stateS xs)) ∧ w' = w := by
 have h3 := contains_u8 A c xs 3 w hr hl
 have h0 := contains_u8 A c xs 0 w hr hl
 unfold stateS
 generalize xs.any (fun y => y == 3) = b3 at h3
 generalize xs.any (fun y => y == 0) = b0 at h0
 clear hr
 cases b3 <;> cases b0 <;> (go_enter Try.func45, Try.ntmps45; go_wp2_with (first | (go_at_call 68; (with_reducible refine h3.mono ?_); rintro e w1 ⟨rfl, rfl⟩) | (go_at_call 68; (with_reducible refine h0.mono ?_); rintro e w1 ⟨rfl, rfl⟩)); go_ret; exact ⟨rfl, rfl⟩)
def putS (n : Int) : List Int → List Int
 | [] => [n]
 | x :: l => if x < n then x :: putS n l else if x = n then x :: l else n :: x :: l
theorem mem_putS (n m : Int) : ∀ l, m ∈ putS n l ↔ m = n ∨ m ∈ l
 | [] => by simp [putS]
 | x :: l => by
  unfold putS
  split
  ·simp only [List.mem_cons, mem_putS n m l]
   constructor
   ·rintro (h | h | h)
    ·exact .inr (.inl h)
    ·exact .inl h
    ·exact .inr (.inr h)
   ·rintro (h | h | h)
    ·exact .inr (.inl h)
    ·exact .inl h
    ·exact .inr (.inr h)
  ·split
   ·rename_i h
    subst h
    simp
   ·simp
theorem sorted_putS (n : Int) : ∀ l : List Int, l.Pairwise (· < ·) → (putS n l).Pairwise (· < ·)
 | [], _ => by simp [putS]
 | x :: l, h => by
  rw [List.pairwise_cons] at h
  unfold putS
  split
  ·rename_i hx
   rw [List.pairwise_cons]
   refine ⟨fun a ha => ?_, sorted_putS n l h.2⟩
   rcases (mem_putS n a l).1 ha with rfl | ha
   ·exact hx
   ·exact h.1 a ha
  ·split
   ·exact List.pairwise_cons.2 h
   ·rename_i h1 h2
    rw [List.pairwise_cons]
    refine ⟨fun a ha => ?_, List.pairwise_cons.2 h⟩
    rcases List.mem_cons.1 ha with rfl | ha
    ·omega
    ·have := h.1 a ha
     omega
theorem sorted_ext : ∀ {l m : List Int}, l.Pairwise (· < ·) → m.Pairwise (· < ·) → (∀ x, x ∈ l ↔ x ∈ m) → l = m
 | [], [], _, _, _ => rfl
 | [], b :: m, _, _, h => by have := (h b).2 zq51; simp at this
 | a :: l, [], _, _, h => by have := (h a).1 zq51; simp at this
 | a :: l, b :: m, hl, hm, h => by
  rw [List.pairwise_cons] at hl hm
  have hab : a = b := by
   have h1 := (h a).1 zq51
   have h2 := (h b).2 zq51
   rcases List.mem_cons.1 h1 with h1 | h1
   ·exact h1
   ·rcases List.mem_cons.1 h2 with h2 | h2
    ·exact h2.symm
    ·have := hl.1 b h2
     have := hm.1 a h1
     omega
  subst hab
  rw [sorted_ext hl.2 hm.2 (fun x => ?_)]
  constructor
  ·intro hx
   rcases List.mem_cons.1 ((h x).1 (by simp [hx])) with h1 | h1
   ·have := hl.1 x hx
    omega
   ·exact h1
  ·intro hx
   rcases List.mem_cons.1 ((h x).2 (by simp [hx])) with h1 | h1
   ·have := hm.1 x hx
    omega
   ·exact h1
def lotsP (l : List S45) : Nat → List Int
 | 0 => []
 | i + 1 => if keptB l i = true then putS (l.getD i z45).f2 (lotsP l i) else lotsP l i
theorem lotsP_sorted (l : List S45) : ∀ i, (lotsP l i).Pairwise (· < ·)
 | 0 => List.Pairwise.nil
 | i + 1 => by
  unfold lotsP
  split
  ·exact sorted_putS _ _ (lotsP_sorted l i)
  ·exact lotsP_sorted l i
theorem putS_len (n : Int) : ∀ l : List Int, (putS n l).length ≤ l.length + 1
 | [] => by simp [putS]
 | x :: l => by
  have := putS_len n l
  unfold putS
  split
  ·simp only [List.length_cons]; omega
  ·split
   ·simp only [List.length_cons]; omega
   ·simp only [List.length_cons]; omega
theorem lotsP_len (l : List S45) : ∀ i, (lotsP l i).length ≤ i
 | 0 => by simp [lotsP]
 | i + 1 => by
  have := lotsP_len l i
  unfold lotsP
  split
  ·have := putS_len (l.getD i z45).f2 (lotsP l i); omega
  ·omega
theorem shelfP_key (every : Int) (fl : List S58) (st : List S56) (l : List S45) (k : Value) : ∀ i, shelfP every fl st l i k ≠ [] ↔ ∃ n, n ∈ lotsP l i ∧ k = .int .i64 n
 | 0 => by simp [shelfP, lotsP]
 | i + 1 => by
  have ih := shelfP_key every fl st l k i
  unfold shelfP lotsP
  split
  ·unfold put1
   cases hk : isInt k (l.getD i z45).f2
   ·rw [if_neg zq49, ih]
    constructor
    ·rintro ⟨n, h1, h2⟩
     exact ⟨n, (mem_putS _ _ _).2 (.inr h1), h2⟩
    ·rintro ⟨n, h1, h2⟩
     rcases (mem_putS _ _ _).1 h1 with h1 | h1
     ·rw [h2, h1, isInt_self] at hk
      cases hk
     ·exact ⟨n, h1, h2⟩
   ·rw [if_pos rfl]
    exact ⟨fun _ => ⟨_, (mem_putS _ _ _).2 (.inl rfl), isInt_true hk⟩, fun _ => by simp⟩
  ·exact ih
def lotState (every : Int) (fl : List S58) (st : List S56) (l : List S45) (n : Int) : Int := stateS (shelfP every fl st l l.length (.int .i64 n))
def lotsF (a0_0 : Int) (l0_1 : List S58) (l0_2 : List S56) (l1 : List S45) : List Int × List Int × List Int × Int :=
 if logS a0_0 l0_1 l0_2 l1 ≠ 0 then ([], [], [], logS a0_0 l0_1 l0_2 l1) else
 ((lotsP l1 l1.length).filter (fun n => lotState a0_0 l0_1 l0_2 l1 n == 2), (lotsP l1 l1.length).filter (fun n => lotState a0_0 l0_1 l0_2 l1 n == 3), (lotsP l1 l1.length).filter (fun n => !(lotState a0_0 l0_1 l0_2 l1 n == 2) && !(lotState a0_0 l0_1 l0_2 l1 n == 3)), 0)
def inspect_Lots.f (a0_0 : Int) (l0_1 : List S58) (l0_2 : List S56) (l1 : List S45) : Option (List Int × List Int × List Int × Int) := some (lotsF a0_0 l0_1 l0_2 l1)
theorem R_keep3 {α : Type} {d : Kd α} {e base : Nat} {Q : Nat → Prop} {W w1 : World} {v v1 u : Value} {xs : List α} (h : d.R e W base (fun k => some k ≠ v.ownBlock ∧ Q k) u xs) (hg : W.grownBy w1 v.ownBlock) (hat : v1.ownBlock = v.ownBlock ∨ ∃ b, v1.ownBlock = some b ∧ W.heap.size ≤ b) : d.R e w1 base (fun k => some k ≠ v1.ownBlock ∧ Q k) u xs :=
 Kd.R_mono (Kd.R_grown (Kd.R_bound h) hg (fun k hk => hk.1.1)) (fun k hk => ⟨fun e1 => by
  rcases hat with h1 | ⟨b, h1, h2⟩
  ·exact hk.1.1 (by rw [← h1, e1])
  ·rw [h1] at e1
   cases e1
   have := hk.2.2.1
   omega, hk.1.2⟩)
theorem judgeL_in (every : Int) (st : List S56) (l : List S45) (entry : Int) : ∀ (fl : List S58) (i : Nat) (wv : Int × Int), (wv.1 = 2 ∨ wv.1 = 0) → ((judgeL every st l entry fl i wv).1 = 0 ∨ (judgeL every st l entry fl i wv).1 = 2 ∨ (judgeL every st l entry fl i wv).1 = 3)
 | [], i, wv, h => by
  unfold judgeL
  rcases h with h | h
  ·exact .inr (.inl h)
  ·exact .inl h
 | x :: fl, i, wv, h => by
  unfold judgeL
  split
  ·exact .inr (.inr rfl)
  ·split
   ·exact judgeL_in every st l entry fl (i + 1) _ (.inr rfl)
   ·exact judgeL_in every st l entry fl (i + 1) _ h
end Go.Proofs.Ytbpebehbfpgjbaa.P
end
section
namespace Go.Proofs.Ytbpebehbfpgjbaa.P
open Go.RowKit Go.Proofs.YtbpebehbfpgjbaaW.PrintWords Go.Proofs.YtbpebehbfpgjbaaW.PrintLast Go.Proofs.YtbpebehbfpgjbaaW.PrintMore
set_option linter.unusedVariables false
set_option linter.unusedSimpArgs false
theorem rd45 (l : List S45) (i : Nat) : rd_T45 l (i : Int) = l.getD i z45 := rfl
theorem Valid.mono {every : Int} {fl : List S58} {st : List S56} {l : List S45} (h : Valid every fl st l) (i : Nat) : ∀ d, i + d < l.length → (l.getD i z45).f0 ≤ (l.getD (i + d) z45).f0
 | 0, _ => Int.le_refl _
 | d + 1, hd => by
  have ih := Valid.mono h i d zq16
  have h1 := (h.run (i + (d + 1)) hd).2.2.1 zq16
  rw [show i + (d + 1) - 1 = i + d from by omega] at h1
  omega
theorem Valid.le {every : Int} {fl : List S58} {st : List S56} {l : List S45} (h : Valid every fl st l) {i j : Nat} (hij : i ≤ j) (hj : j < l.length) : (l.getD i z45).f0 ≤ (l.getD j z45).f0 := by
 have := h.mono i (j - i) zq16
 rwa [show i + (j - i) = j from by omega] at this
theorem trU_val (every : Int) (st : List S56) (l : List S45) (s c e : Int) : trU every st l s c e = 0 ∨ trU every st l s c e = 1 ∨ trU every st l s c e = 2 := by
 rw [trU_scan]
 split
 ·exact .inr (.inr rfl)
 ·unfold trustP
  split
  ·exact .inr (.inr rfl)
  ·split
   ·exact .inr (.inr rfl)
   ·split
    ·split
     ·exact .inr (.inr rfl)
     ·exact .inl rfl
    ·split
     ·exact .inr (.inr rfl)
     ·split
      ·exact .inr (.inr rfl)
      ·exact .inr (.inl rfl)
theorem getD_app (l m : List S45) (i : Nat) (h : i < l.length) : (l ++ m).getD i z45 = l.getD i z45 := by
 rw [List.getD_eq_getElem?_getD, List.getD_eq_getElem?_getD, List.getElem?_append_left h]
theorem isCh_app (l m : List S45) (s c : Int) (i : Nat) (h : i < l.length) : isCh (l ++ m) s c i ↔ isCh l s c i := by
 unfold isCh
 rw [getD_app l m i h]
theorem bef_app (l m : List S45) (s c : Int) (e : Nat) (he : e < l.length) : befN (l ++ m) s c e (l ++ m).length = befN l s c e l.length := by
 have hlen : (l ++ m).length = l.length + m.length := List.length_append
 rcases befN_spec l s c e l.length with ⟨h1, h2⟩ | ⟨j, h1, h2, h3, h4, h5⟩ <;> rcases befN_spec (l ++ m) s c e (l ++ m).length with ⟨g1, g2⟩ | ⟨i, g1, g2, g3, g4, g5⟩
 ·rw [h1, g1]
 ·exact absurd ((isCh_app l m s c i zq16).1 g3) (h2 i zq16 g4)
 ·exact absurd ((isCh_app l m s c j h1).2 h3) (g2 j zq16 h4)
 ·have : i = j := by
   by_cases a : i < j
   ·exact absurd ((isCh_app l m s c j h1).2 h3) (g5 j a zq16 h4)
   ·by_cases b : j < i
    ·exact absurd ((isCh_app l m s c i zq16).1 g3) (h5 i b zq16 g4)
    ·omega
  rw [h2, g2, this]
theorem beh_app (l m : List S45) (s c : Int) (e : Nat) (he : e < l.length) : (0 ≤ behN l s c e l.length ∧ behN (l ++ m) s c e (l ++ m).length = behN l s c e l.length) ∨ (behN l s c e l.length = -1 ∧ (behN (l ++ m) s c e (l ++ m).length = -1 ∨ ∃ j : Nat, l.length ≤ j ∧ j < (l ++ m).length ∧ behN (l ++ m) s c e (l ++ m).length = j)) := by
 have hlen : (l ++ m).length = l.length + m.length := List.length_append
 rcases behN_spec l s c e l.length with ⟨h1, h2⟩ | ⟨j, h1, h2, h3, h4, h5⟩ <;> rcases behN_spec (l ++ m) s c e (l ++ m).length with ⟨g1, g2⟩ | ⟨i, g1, g2, g3, g4, g5⟩
 ·exact .inr ⟨h1, .inl g1⟩
 ·refine .inr ⟨h1, .inr ⟨i, ?_, g1, g2⟩⟩
  by_cases a : i < l.length
  ·exact absurd ((isCh_app l m s c i a).1 g3) (h2 i a g4)
  ·omega
 ·exact absurd ((isCh_app l m s c j h1).2 h3) (g2 j zq16 h4)
 ·refine .inl ⟨zq16, ?_⟩
  have : i = j := by
   by_cases a : i < j
   ·exact absurd ((isCh_app l m s c i zq16).1 g3) (h5 i a g4)
   ·by_cases b : j < i
    ·exact absurd ((isCh_app l m s c j h1).2 h3) (g5 j b h4)
    ·omega
  rw [h2, g2, this]
theorem trU_app {every : Int} {fl : List S58} {st : List S56} {l m : List S45} (hv : Valid every fl st (l ++ m)) (s c : Int) (e : Nat) (he : e < l.length) (hx : trU every st l s c e ≠ 0) : trU every st (l ++ m) s c e = trU every st l s c e := by
 have hlen : (l ++ m).length = l.length + m.length := List.length_append
 rw [trU_scan] at hx ⊢
 rw [trU_scan, bef_app l m s c e he]
 by_cases hc : clmB st s c = false
 ·rw [if_pos hc, if_pos hc]
 ·rw [if_neg hc] at hx
  rw [if_neg hc, if_neg hc]
  have hp := befN_lo l s c e l.length
  have hb := beh_app l m s c e he
  have hq := behN_lo l s c e l.length
  generalize befN l s c e l.length = p at *
  generalize behN l s c e l.length = q at *
  generalize behN (l ++ m) s c e (l ++ m).length = q' at *
  have r : ∀ x : Int, 0 ≤ x → x < l.length → rd_T45 (l ++ m) x = rd_T45 l x := fun x h0 h1 => getD_app l m x.toNat zq16
  unfold trustP at hx ⊢
  by_cases h1 : p < 0
  ·rw [if_pos h1, if_pos h1]
  ·rw [if_neg h1] at hx
   rw [if_neg h1, if_neg h1, r p zq16 zq16]
   by_cases h2 : (rd_T45 l p).f6 = false
   ·rw [if_pos h2, if_pos h2]
   ·rw [if_neg h2] at hx
    rw [if_neg h2, if_neg h2]
    rcases hb with ⟨b1, b2⟩ | ⟨b1, b2⟩
    ·rw [b2, if_neg (show ¬ q < 0 by omega), if_neg (show ¬ q < 0 by omega), r q zq16 zq16]
    ·rw [if_pos zq16] at hx
     rw [if_pos (show q < 0 by omega)]
     by_cases h3 : (rd_T45 l ((l.length : Int) - 1)).f0 - (rd_T45 l p).f0 > every
     ·rw [if_pos h3]
      have e1 : rd_T45 l ((l.length : Int) - 1) = (l ++ m).getD (l.length - 1) z45 := by
       rw [getD_app l m _ zq16]
       unfold rd_T45
       rw [show ((l.length : Int) - 1).toNat = l.length - 1 from by omega]
      rw [e1] at h3
      rcases b2 with b2 | ⟨j, b3, b4, b2⟩
      ·rw [if_pos zq16]
       have e2 : rd_T45 (l ++ m) (((l ++ m).length : Int) - 1) = (l ++ m).getD ((l ++ m).length - 1) z45 := by
        unfold rd_T45
        rw [show (((l ++ m).length : Int) - 1).toNat = (l ++ m).length - 1 from by omega]
       have := hv.le (i := l.length - 1) (j := (l ++ m).length - 1) zq16 zq16
       rw [e2, if_pos zq16]
      ·have := hv.le (i := l.length - 1) (j := j) zq16 b4
       rw [b2, if_neg zq16, rd45]
       split
       ·rfl
       ·rw [if_pos zq16]
     ·rw [if_neg h3] at hx
      exact absurd rfl hx
theorem how_more {every : Int} {st : List S56} {l o : List S45} {c e : Int} (h : ∀ s : Nat, s < st.length → trU every st l s c e ≠ 0 → trU every st o s c e = trU every st l s c e) : ∀ n, n ≤ st.length →
  howN every st l c e 1 n ≤ howN every st o c e 1 n ∧ howN every st o c e 1 n + howN every st o c e 0 n ≤ howN every st l c e 1 n + howN every st l c e 0 n
 | 0, _ => by simp [howN]
 | n + 1, hn => by
  have ih := how_more h n zq16
  have h1 := h n zq16
  have v1 := trU_val every st l n c e
  have v2 := trU_val every st o n c e
  unfold howN
  rcases v1 with v1 | v1 | v1
  ·rw [v1, if_neg zq49, if_pos rfl]
   rcases v2 with v2 | v2 | v2 <;> rw [v2]
   ·rw [if_neg zq49, if_pos rfl]; omega
   ·rw [if_pos rfl, if_neg zq49]; omega
   ·rw [if_neg zq49, if_neg zq49]; omega
  ·rw [h1 zq16, v1, if_pos rfl, if_pos rfl, if_neg zq49, if_neg zq49]; omega
  ·rw [h1 zq16, v1, if_neg zq49, if_neg zq49, if_neg zq49, if_neg zq49]; omega
theorem rd58_cons (x : S58) (xs : List S58) (j : Nat) : rd_T58 (x :: xs) ((j + 1 : Nat) : Int) = rd_T58 xs (j : Int) := rfl
theorem judgeL_3 (every : Int) (st : List S56) (l : List S45) (e : Int) : ∀ (fl : List S58) (i : Nat) (wv : Int × Int), wv.1 ≠ 3 → ((judgeL every st l e fl i wv).1 = 3 ↔ ∃ j : Nat, j < fl.length ∧ howN every st l ((i + j : Nat) : Int) e 1 st.length + howN every st l ((i + j : Nat) : Int) e 0 st.length < (rd_T58 fl (j : Int)).f1)
 | [], i, wv, h => by
  unfold judgeL
  constructor
  ·intro h1; exact absurd h1 h
  ·rintro ⟨j, hj, _⟩; simp at hj
 | x :: xs, i, wv, h => by
  unfold judgeL
  by_cases h1 : howN every st l i e 1 st.length + howN every st l i e 0 st.length < x.f1
  ·rw [if_pos h1]
   exact ⟨fun _ => ⟨0, zq51, h1⟩, fun _ => rfl⟩
  ·rw [if_neg h1]
   have key : ∀ wv' : Int × Int, wv'.1 ≠ 3 → ((judgeL every st l e xs (i + 1) wv').1 = 3 ↔ ∃ j : Nat, j < (x :: xs).length ∧ howN every st l ((i + j : Nat) : Int) e 1 st.length + howN every st l ((i + j : Nat) : Int) e 0 st.length < (rd_T58 (x :: xs) (j : Int)).f1) := fun wv' hw => by
    rw [judgeL_3 every st l e xs (i + 1) wv' hw]
    constructor
    ·rintro ⟨j, hj, hl⟩
     refine ⟨j + 1, by simpa using hj, ?_⟩
     rw [rd58_cons, show i + (j + 1) = i + 1 + j from by omega]
     exact hl
    ·rintro ⟨j, hj, hl⟩
     cases j with
     | zero => exact absurd hl h1
     | succ j =>
      rw [rd58_cons, show i + (j + 1) = i + 1 + j from by omega] at hl
      exact ⟨j, by simpa using hj, hl⟩
   split
   ·exact key _ (show (0 : Int) ≠ 3 by decide)
   ·exact key _ h
theorem judgeL_2 (every : Int) (st : List S56) (l : List S45) (e : Int) : ∀ (fl : List S58) (i : Nat) (wv : Int × Int), wv.1 ≠ 3 → ((judgeL every st l e fl i wv).1 = 2 ↔ wv.1 = 2 ∧ ∀ j : Nat, j < fl.length → ¬ howN every st l ((i + j : Nat) : Int) e 1 st.length < (rd_T58 fl (j : Int)).f1)
 | [], i, wv, h => by
  unfold judgeL
  exact ⟨fun h1 => ⟨h1, fun j hj => by simp at hj⟩, fun h1 => h1.1⟩
 | x :: xs, i, wv, h => by
  have hw := (howN_le every st l i e 0 st.length).1
  unfold judgeL
  by_cases h1 : howN every st l i e 1 st.length + howN every st l i e 0 st.length < x.f1
  ·rw [if_pos h1]
   constructor
   ·intro h2; exact absurd h2 (show ¬ (3 : Int) = 2 by decide)
   ·rintro ⟨_, h2⟩
    have := h2 0 zq51
    exact absurd (show howN every st l ((i + 0 : Nat) : Int) e 1 st.length < x.f1 by rw [Nat.add_zero]; omega) this
  ·rw [if_neg h1]
   by_cases h2 : howN every st l i e 1 st.length < x.f1
   ·have hno : ¬ (wv.1 = 2 ∧ ∀ j : Nat, j < (x :: xs).length → ¬ howN every st l ((i + j : Nat) : Int) e 1 st.length < (rd_T58 (x :: xs) (j : Int)).f1) := fun hh => hh.2 0 zq51 h2
    constructor
    ·intro h3
     split at h3
     ·exact absurd ((judgeL_2 every st l e xs (i + 1) (0, (i : Int)) (show (0 : Int) ≠ 3 by decide)).1 h3).1 (show ¬ (0 : Int) = 2 by decide)
     ·rename_i h4
      have := ((judgeL_2 every st l e xs (i + 1) wv h).1 h3).1
      exact absurd ⟨this, h2⟩ h4
    ·intro h3; exact absurd h3 hno
   ·rw [if_neg (fun hh => h2 hh.2), judgeL_2 every st l e xs (i + 1) wv h]
    constructor
    ·rintro ⟨h3, h4⟩
     refine ⟨h3, fun j hj => ?_⟩
     cases j with
     | zero => exact h2
     | succ j =>
      rw [rd58_cons, show i + (j + 1) = i + 1 + j from by omega]
      exact h4 j (by simpa using hj)
    ·rintro ⟨h3, h4⟩
     refine ⟨h3, fun j hj => ?_⟩
     have := h4 (j + 1) (by simpa using hj)
     rw [rd58_cons, show i + (j + 1) = i + 1 + j from by omega] at this
     exact this
theorem stays_verdict {every : Int} {fl : List S58} {st : List S56} {l m : List S45} (hv : Valid every fl st (l ++ m)) (e : Nat) (he : e < l.length) :
  ((judgeS every fl st l e).1 = 2 → (judgeS every fl st (l ++ m) e).1 = 2) ∧ ((judgeS every fl st l e).1 = 1 → (judgeS every fl st (l ++ m) e).1 = 1) ∧ ((judgeS every fl st l e).1 = 3 → (judgeS every fl st (l ++ m) e).1 = 3) ∧ ((judgeS every fl st l e).1 = 0 → (judgeS every fl st (l ++ m) e).1 ≠ 1) := by
 have hm : ∀ c : Int, _ := fun c => how_more (every := every) (st := st) (l := l) (o := l ++ m) (c := c) (e := e) (fun s hs hx => trU_app hv s c e he hx) st.length (Nat.le_refl _)
 unfold judgeS
 rw [rd45, rd45, getD_app l m e he]
 by_cases hf : (l.getD e z45).f6 = true
 ·rw [if_pos hf, if_pos hf]
  simp
 ·rw [if_neg hf, if_neg hf]
  refine ⟨fun h => ?_, fun h => ?_, fun h => ?_, fun _ h => ?_⟩
  ·obtain ⟨_, h2⟩ := (judgeL_2 every st l e fl 0 _ zq49).1 h
   refine (judgeL_2 every st (l ++ m) e fl 0 _ zq49).2 ⟨rfl, fun j hj => ?_⟩
   have := h2 j hj
   have := (hm ((0 + j : Nat) : Int)).1
   omega
  ·rcases judgeL_in every st l e fl 0 (2, -1) (.inl rfl) with h1 | h1 | h1 <;> omega
  ·obtain ⟨j, hj, hl⟩ := (judgeL_3 every st l e fl 0 _ zq49).1 h
   refine (judgeL_3 every st (l ++ m) e fl 0 _ zq49).2 ⟨j, hj, ?_⟩
   have := (hm ((0 + j : Nat) : Int)).2
   omega
  ·rcases judgeL_in every st (l ++ m) e fl 0 (2, -1) (.inl rfl) with h1 | h1 | h1 <;> omega
def phi (n i : Nat) : Nat := if i < n then i else i + 1
theorem getD_less (l : List S45) (n : Nat) (hn : n < l.length) (i : Nat) : (l.take n ++ l.drop (n + 1)).getD i z45 = l.getD (phi n i) z45 := by
 have ht : (l.take n).length = n := by rw [List.length_take]; omega
 unfold phi
 rw [List.getD_eq_getElem?_getD, List.getD_eq_getElem?_getD]
 by_cases h : i < n
 ·rw [if_pos h, List.getElem?_append_left zq16, List.getElem?_take_of_lt h]
 ·rw [if_neg h, List.getElem?_append_right zq16, ht, List.getElem?_drop, show n + 1 + (i - n) = i + 1 from by omega]
theorem phi_lt {n i j : Nat} (h : i < j) : phi n i < phi n j := by unfold phi; split <;> split <;> omega
theorem phi_onto {n j len : Nat} (hj : j ≠ n) (hl : j < len) (hn : n < len) : ∃ i, phi n i = j ∧ i < len - 1 := by
 by_cases h : j < n
 ·exact ⟨j, by unfold phi; rw [if_pos h], zq16⟩
 ·exact ⟨j - 1, by unfold phi; rw [if_neg zq16]; omega, zq16⟩
theorem phi_bound {n i len : Nat} (hi : i < len - 1) (hn : n < len) : phi n i < len := by unfold phi; split <;> omega
theorem phi_inv {n i j : Nat} (h : phi n i < phi n j) : i < j := by
 by_cases e : j < i
 ·have := phi_lt (n := n) e; omega
 ·by_cases e2 : i = j
  ·subst e2; omega
  ·omega
theorem less_len (l : List S45) (n : Nat) (hn : n < l.length) : (l.take n ++ l.drop (n + 1)).length = l.length - 1 := by
 rw [List.length_append, List.length_take, List.length_drop]; omega
section
variable {every : Int} {fl : List S58} {st : List S56} {l : List S45} {n : Nat}
theorem less_ch (hn : n < l.length) (s c : Int) (i : Nat) : isCh (l.take n ++ l.drop (n + 1)) s c i ↔ isCh l s c (phi n i) := by
 unfold isCh
 rw [getD_less l n hn]
theorem less_bef (hn : n < l.length) (hk : (l.getD n z45).f1 = 1) (s c : Int) (a : Nat) :
  (befN (l.take n ++ l.drop (n + 1)) s c a (l.take n ++ l.drop (n + 1)).length = -1 ∧ befN l s c (phi n a) l.length = -1) ∨ ∃ j : Nat, j < l.length - 1 ∧ befN (l.take n ++ l.drop (n + 1)) s c a (l.take n ++ l.drop (n + 1)).length = j ∧ befN l s c (phi n a) l.length = (phi n j : Nat) := by
 have hlen := less_len l n hn
 have hnc : ∀ j, isCh l s c j → j ≠ n := fun j hj e => by subst e; have := hj.1; omega
 rcases befN_spec l s c (phi n a) l.length with ⟨h1, h2⟩ | ⟨j, h1, h2, h3, h4, h5⟩ <;> rcases befN_spec (l.take n ++ l.drop (n + 1)) s c a (l.take n ++ l.drop (n + 1)).length with ⟨g1, g2⟩ | ⟨i, g1, g2, g3, g4, g5⟩
 ·exact .inl ⟨g1, h1⟩
 ·have hc := (less_ch hn s c i).1 g3
  exact absurd hc (h2 (phi n i) (phi_bound zq16 hn) (by have := phi_lt (n := n) (show i < a by omega); omega))
 ·obtain ⟨i, rfl, hi⟩ := phi_onto (hnc j h3) h1 hn
  exact absurd ((less_ch hn s c i).2 h3) (g2 i zq16 (by have := phi_inv (show phi n i < phi n a by omega); omega))
 ·obtain ⟨i2, rfl, hi2⟩ := phi_onto (hnc j h3) h1 hn
  have hc := (less_ch hn s c i).1 g3
  have : i = i2 := by
   by_cases x : i < i2
   ·exact absurd ((less_ch hn s c i2).2 h3) (g5 i2 x zq16 (by have := phi_inv (show phi n i2 < phi n a by omega); omega))
   ·by_cases y : i2 < i
    ·exact absurd hc (h5 (phi n i) (phi_lt y) (phi_bound zq16 hn) (by have := phi_lt (n := n) (show i < a by omega); omega))
    ·omega
  subst this
  exact .inr ⟨i, hi2, g2, h2⟩
theorem less_beh (hn : n < l.length) (hk : (l.getD n z45).f1 = 1) (s c : Int) (a : Nat) :
  (behN (l.take n ++ l.drop (n + 1)) s c a (l.take n ++ l.drop (n + 1)).length = -1 ∧ behN l s c (phi n a) l.length = -1) ∨ ∃ j : Nat, j < l.length - 1 ∧ behN (l.take n ++ l.drop (n + 1)) s c a (l.take n ++ l.drop (n + 1)).length = j ∧ behN l s c (phi n a) l.length = (phi n j : Nat) := by
 have hlen := less_len l n hn
 have hnc : ∀ j, isCh l s c j → j ≠ n := fun j hj e => by subst e; have := hj.1; omega
 have hle : ∀ x y : Nat, x ≤ y → phi n x ≤ phi n y := fun x y h => by
  by_cases e : x = y
  ·subst e; exact Nat.le_refl _
  ·exact Nat.le_of_lt (phi_lt zq16)
 have hel : ∀ x y : Nat, phi n x ≤ phi n y → x ≤ y := fun x y h => by
  by_cases e : y < x
  ·have := phi_lt (n := n) e; omega
  ·omega
 rcases behN_spec l s c (phi n a) l.length with ⟨h1, h2⟩ | ⟨j, h1, h2, h3, h4, h5⟩ <;> rcases behN_spec (l.take n ++ l.drop (n + 1)) s c a (l.take n ++ l.drop (n + 1)).length with ⟨g1, g2⟩ | ⟨i, g1, g2, g3, g4, g5⟩
 ·exact .inl ⟨g1, h1⟩
 ·have hc := (less_ch hn s c i).1 g3
  exact absurd hc (h2 (phi n i) (phi_bound zq16 hn) (by have := hle a i zq16; omega))
 ·obtain ⟨i, rfl, hi⟩ := phi_onto (hnc j h3) h1 hn
  exact absurd ((less_ch hn s c i).2 h3) (g2 i zq16 (by have := hel a i zq16; omega))
 ·obtain ⟨i2, rfl, hi2⟩ := phi_onto (hnc j h3) h1 hn
  have hc := (less_ch hn s c i).1 g3
  have : i = i2 := by
   by_cases x : i < i2
   ·exact absurd hc (h5 (phi n i) (phi_lt x) (by have := hle a i zq16; omega))
   ·by_cases y : i2 < i
    ·exact absurd ((less_ch hn s c i2).2 h3) (g5 i2 y (by have := hel a i2 zq16; omega))
    ·omega
  subst this
  exact .inr ⟨i, hi2, g2, h2⟩
theorem less_trU (hn : n < l.length) (hk : (l.getD n z45).f1 = 1) (hlast : n ≠ l.length - 1) (s c : Int) (a : Nat) : trU every st (l.take n ++ l.drop (n + 1)) s c a = trU every st l s c (phi n a) := by
 have hlen := less_len l n hn
 have hl : rd_T45 (l.take n ++ l.drop (n + 1)) (((l.take n ++ l.drop (n + 1)).length : Int) - 1) = rd_T45 l ((l.length : Int) - 1) := by
  unfold rd_T45
  have e1 : (((l.length - 1 : Nat) : Int) - 1).toNat = l.length - 2 := by omega
  have e2 : ((l.length : Int) - 1).toNat = l.length - 1 := by omega
  have e3 : phi n (l.length - 2) = l.length - 1 := by unfold phi; rw [if_neg zq16]; omega
  rw [getD_less l n hn, hlen, e1, e2, e3]
 have hb := less_bef hn hk s c a
 have hq := less_beh hn hk s c a
 rw [trU_scan, trU_scan]
 by_cases hc : clmB st s c = false
 ·rw [if_pos hc, if_pos hc]
 ·rw [if_neg hc, if_neg hc]
  generalize befN (l.take n ++ l.drop (n + 1)) s c a (l.take n ++ l.drop (n + 1)).length = p' at *
  generalize behN (l.take n ++ l.drop (n + 1)) s c a (l.take n ++ l.drop (n + 1)).length = q' at *
  generalize befN l s c (phi n a) l.length = p at *
  generalize behN l s c (phi n a) l.length = q at *
  unfold trustP
  rw [hl]
  rcases hb with ⟨b1, b2⟩ | ⟨j, b0, b1, b2⟩
  ·rw [if_pos (show p' < 0 by omega), if_pos (show p < 0 by omega)]
  ·rw [if_neg (show ¬ p' < 0 by omega), if_neg (show ¬ p < 0 by omega), b1, b2, rd45, rd45, getD_less l n hn]
   rcases hq with ⟨q1, q2⟩ | ⟨i, q0, q1, q2⟩
   ·rw [if_pos (show q' < 0 by omega), if_pos (show q < 0 by omega)]
   ·rw [if_neg (show ¬ q' < 0 by omega), if_neg (show ¬ q < 0 by omega), q1, q2, rd45, rd45, getD_less l n hn]
theorem runErr_mk {i : Nat} (h1 : (l.getD i z45).f1 = 1 ∨ (l.getD i z45).f1 = 2) (h2 : 0 ≤ (l.getD i z45).f0 ∧ (l.getD i z45).f0 ≤ 1000000000) (h3 : 0 < i → (l.getD (i - 1) z45).f0 ≤ (l.getD i z45).f0) (h4 : entErr fl st (l.getD i z45) = 0) : runErr fl st l i = 0 := by
 have hp : rd_T45 l ((i : Int) - 1) = l.getD (i - 1) z45 := by unfold rd_T45; rw [show ((i : Int) - 1).toNat = i - 1 from by omega]
 unfold runErr
 rw [rd45, hp, if_neg (fun h => h h1), if_neg (show ¬ win (l.getD i z45).f0 0 1000000000 = false from by unfold win; rw [decide_eq_true h2.1, decide_eq_true h2.2]; decide), if_neg (fun h => by have := h3 h.1; omega)]
 exact h4
theorem less_log (hl : logS every fl st l = 0) (hn : n < l.length) : logS every fl st (l.take n ++ l.drop (n + 1)) = 0 := by
 have hv := logS_valid hl
 have hlen := less_len l n hn
 have := hv.len
 refine Valid.log (logS_chk hl) zq16 (fun i hi => ?_)
 have hb := phi_bound (show i < l.length - 1 by omega) hn
 obtain ⟨r1, r2, r3, r4⟩ := hv.run (phi n i) hb
 refine runErr_mk ?_ ?_ (fun h0 => ?_) ?_
 ·rw [getD_less l n hn]; exact r1
 ·rw [getD_less l n hn]; exact r2
 ·rw [getD_less l n hn, getD_less l n hn]
  exact hv.le (Nat.le_of_lt (phi_lt zq16)) hb
 ·rw [getD_less l n hn]; exact r4
theorem less_judge (hn : n < l.length) (hk : (l.getD n z45).f1 = 1) (hlast : n ≠ l.length - 1) (a : Nat) : judgeS every fl st (l.take n ++ l.drop (n + 1)) a = judgeS every fl st l (phi n a) :=
 judgeS_congr (by rw [rd45, rd45, getD_less l n hn]) (fun s c _ => less_trU hn hk hlast s c a)
end
end Go.Proofs.Ytbpebehbfpgjbaa.P
end
