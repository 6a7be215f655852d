/- InspectNothing, as the seat states it: for every line of inspection and whatever truly happens the statement's function returns true. No condition beyond the given row's own. -/
import Derived.WideKeyEntry
import Derived.Maps.OwnRows
import Derived.Maps.Range
import Derived.Shelf.Abstract
import Derived.DeepKeys4
import Derived.WalkSpells
import Derived.Shelf.Small.Bits
import Derived.Shelf.Strconv.Itoa0
import Derived.Shelf.Sort.Plain
import Derived.Shelf.Bits.Mul64
import Derived.Ground.Names2Prog
import Derived.Shelf.Slices.SearchI
import Derived.Shelf.Slices.In.SortNone
import Derived.Shelf.Slices.Empties
import Derived.Test.YtbpebehbfpgjbaaProg
import Derived.Outline
import Derived.IntWalk
import Derived.Deep.QuietTactic
import Derived.BigQuiet
import Derived.Deep.RegionLaw
import Derived.Sort.OwnSortedInts
import Derived.Maps.RangeRun
import Derived.Deep.RegionHeld3
import Derived.ChangeArms
import Derived.ChangeSlices
import Derived.Test.YtbpebehbfpgjbaaRows
import Derived.WalkKit
import Derived.ProofKit
import Derived.OpenShut
import Derived.ShutString
import Derived.ChangeOld
import Derived.Below
import Derived.SizedLaws
import Derived.Test.YtbpebehbfpgjbaaCla
import Derived.Test.YtbpebehbfpgjbaaClb
import Derived.Test.YtbpebehbfpgjbaaClc
import Derived.Test.YtbpebehbfpgjbaaCld
import Derived.Test.YtbpebehbfpgjbaaCle
import Derived.Test.YtbpebehbfpgjbaaClf
import Derived.Test.YtbpebehbfpgjbaaClg
import Derived.Test.YtbpebehbfpgjbaaClh
import Derived.Test.YtbpebehbfpgjbaaCna
import Derived.Test.YtbpebehbfpgjbaaCnb
import Derived.Test.YtbpebehbfpgjbaaCnc
import Derived.Test.YtbpebehbfpgjbaaCnd
section
namespace Go.Proofs.Ytbpebehbfpgjbaa.P
open Go.RowKit Go.Proofs.YtbpebehbfpgjbaaW.PrintWords Go.Proofs.YtbpebehbfpgjbaaW.PrintLast Go.Proofs.YtbpebehbfpgjbaaW.PrintMore
set_option linter.unusedVariables false
set_option linter.unusedSimpArgs false
theorem behN_spec (l : List S45) (s c e : Int) : ∀ n, (behN l s c e n = -1 ∧ ∀ j : Nat, j < n → e ≤ (j : Int) → ¬ isCh l s c j) ∨ (∃ j : Nat, j < n ∧ behN l s c e n = j ∧ isCh l s c j ∧ e ≤ (j : Int) ∧ ∀ j' : Nat, j' < j → e ≤ (j' : Int) → ¬ isCh l s c j')
 | 0 => .inl ⟨rfl, fun j h => by omega⟩
 | n + 1 => by
  have ih := behN_spec l s c e n
  by_cases h : isCh l s c n ∧ e ≤ (n : Int)
  ·have hb : behN l s c e (n + 1) = if behN l s c e n < 0 then (n : Int) else behN l s c e n := by rw [behN, if_pos h.1, if_neg zr13]
   rcases ih with ⟨h1, h2⟩ | ⟨j, h1, h2, h3, h4, h5⟩
   ·rw [if_pos zr13] at hb
    exact .inr ⟨n, zr13, hb, h.1, h.2, h2⟩
   ·rw [if_neg zr13] at hb
    exact .inr ⟨j, zr13, hb.trans h2, h3, h4, h5⟩
  ·have hb : behN l s c e (n + 1) = behN l s c e n := by
    rw [behN]
    split
    ·rename_i hc
     rw [if_pos (by by_cases h2 : e ≤ (n : Int); exact absurd ⟨hc, h2⟩ h; omega)]
    ·rfl
   rw [hb]
   rcases ih with ⟨h1, h2⟩ | ⟨j, h1, h2, h3, h4, h5⟩
   ·refine .inl ⟨h1, fun j hj he hc => ?_⟩
    by_cases e1 : j = n
    ·subst e1; exact h ⟨hc, he⟩
    ·exact h2 j zr13 he hc
   ·exact .inr ⟨j, zr13, h2, h3, h4, h5⟩
theorem trU_scan (every : Int) (st : List S56) (l : List S45) (s c e : Int) : trU every st l s c e = if clmB st s c = false then 2 else trustP every l (befN l s c e l.length) (behN l s c e l.length) := by
 obtain ⟨h1, h2⟩ := scan l s c e l.length
 unfold trU trustS
 rw [h1, h2]
theorem Valid.log {every : Int} {fl : List S58} {st : List S56} {l : List S45} (hc : chkS every fl st = 0) (hl : l.length ≤ 512) (h : ∀ i, i < l.length → runErr fl st l i = 0) : logS every fl st l = 0 := by
 unfold logS
 rw [if_pos hc, if_neg zr13]
 have go : ∀ r i, i + r = l.length → firstErr (runErr fl st l) r i = 0 := by
  intro r
  induction r with
  | zero => intro i _; rfl
  | succ r ih =>
   intro i hi
   rw [firstErr_succ, if_pos (h i zr13)]
   exact ih (i + 1) zr13
 exact go l.length 0 zr13
end Go.Proofs.Ytbpebehbfpgjbaa.P
end
section
namespace Go.Proofs.Ytbpebehbfpgjbaa.P
open Go.RowKit Go.Proofs.YtbpebehbfpgjbaaW.PrintWords Go.Proofs.YtbpebehbfpgjbaaW.PrintLast Go.Proofs.YtbpebehbfpgjbaaW.PrintMore
set_option linter.unusedVariables false
set_option linter.unusedSimpArgs false
theorem rd45 (l : List S45) (i : Nat) : rd_T45 l (i : Int) = l.getD i z45 := rfl
theorem Valid.mono {every : Int} {fl : List S58} {st : List S56} {l : List S45} (h : Valid every fl st l) (i : Nat) : ∀ d, i + d < l.length → (l.getD i z45).f0 ≤ (l.getD (i + d) z45).f0
 | 0, _ => Int.le_refl _
 | d + 1, hd => by
  have ih := Valid.mono h i d zr13
  have h1 := (h.run (i + (d + 1)) hd).2.2.1 zr13
  rw [show i + (d + 1) - 1 = i + d from by omega] at h1
  omega
theorem Valid.le {every : Int} {fl : List S58} {st : List S56} {l : List S45} (h : Valid every fl st l) {i j : Nat} (hij : i ≤ j) (hj : j < l.length) : (l.getD i z45).f0 ≤ (l.getD j z45).f0 := by
 have := h.mono i (j - i) zr13
 rwa [show i + (j - i) = j from by omega] at this
theorem getD_app (l m : List S45) (i : Nat) (h : i < l.length) : (l ++ m).getD i z45 = l.getD i z45 := by
 rw [List.getD_eq_getElem?_getD, List.getD_eq_getElem?_getD, List.getElem?_append_left h]
theorem isCh_app (l m : List S45) (s c : Int) (i : Nat) (h : i < l.length) : isCh (l ++ m) s c i ↔ isCh l s c i := by
 unfold isCh
 rw [getD_app l m i h]
theorem rd58_cons (x : S58) (xs : List S58) (j : Nat) : rd_T58 (x :: xs) ((j + 1 : Nat) : Int) = rd_T58 xs (j : Int) := rfl
theorem judgeL_2 (every : Int) (st : List S56) (l : List S45) (e : Int) : ∀ (fl : List S58) (i : Nat) (wv : Int × Int), wv.1 ≠ 3 → ((judgeL every st l e fl i wv).1 = 2 ↔ wv.1 = 2 ∧ ∀ j : Nat, j < fl.length → ¬ howN every st l ((i + j : Nat) : Int) e 1 st.length < (rd_T58 fl (j : Int)).f1)
 | [], i, wv, h => by
  unfold judgeL
  exact ⟨fun h1 => ⟨h1, fun j hj => by simp at hj⟩, fun h1 => h1.1⟩
 | x :: xs, i, wv, h => by
  have hw := (howN_le every st l i e 0 st.length).1
  unfold judgeL
  by_cases h1 : howN every st l i e 1 st.length + howN every st l i e 0 st.length < x.f1
  ·rw [if_pos h1]
   constructor
   ·intro h2; exact absurd h2 (show ¬ (3 : Int) = 2 by decide)
   ·rintro ⟨_, h2⟩
    have := h2 0 zr38
    exact absurd (show howN every st l ((i + 0 : Nat) : Int) e 1 st.length < x.f1 by rw [Nat.add_zero]; omega) this
  ·rw [if_neg h1]
   by_cases h2 : howN every st l i e 1 st.length < x.f1
   ·have hno : ¬ (wv.1 = 2 ∧ ∀ j : Nat, j < (x :: xs).length → ¬ howN every st l ((i + j : Nat) : Int) e 1 st.length < (rd_T58 (x :: xs) (j : Int)).f1) := fun hh => hh.2 0 zr38 h2
    constructor
    ·intro h3
     split at h3
     ·exact absurd ((judgeL_2 every st l e xs (i + 1) (0, (i : Int)) (show (0 : Int) ≠ 3 by decide)).1 h3).1 (show ¬ (0 : Int) = 2 by decide)
     ·rename_i h4
      have := ((judgeL_2 every st l e xs (i + 1) wv h).1 h3).1
      exact absurd ⟨this, h2⟩ h4
    ·intro h3; exact absurd h3 hno
   ·rw [if_neg (fun hh => h2 hh.2), judgeL_2 every st l e xs (i + 1) wv h]
    constructor
    ·rintro ⟨h3, h4⟩
     refine ⟨h3, fun j hj => ?_⟩
     cases j with
     | zero => exact h2
     | succ j =>
      rw [rd58_cons, show i + (j + 1) = i + 1 + j from by omega]
      exact h4 j (by simpa using hj)
    ·rintro ⟨h3, h4⟩
     refine ⟨h3, fun j hj => ?_⟩
     have := h4 (j + 1) (by simpa using hj)
     rw [rd58_cons, show i + (j + 1) = i + 1 + j from by omega] at this
     exact this
section
variable {every : Int} {fl : List S58} {st : List S56} {l : List S45} {n : Nat}
theorem runErr_mk {i : Nat} (h1 : (l.getD i z45).f1 = 1 ∨ (l.getD i z45).f1 = 2) (h2 : 0 ≤ (l.getD i z45).f0 ∧ (l.getD i z45).f0 ≤ 1000000000) (h3 : 0 < i → (l.getD (i - 1) z45).f0 ≤ (l.getD i z45).f0) (h4 : entErr fl st (l.getD i z45) = 0) : runErr fl st l i = 0 := by
 have hp : rd_T45 l ((i : Int) - 1) = l.getD (i - 1) z45 := by unfold rd_T45; rw [show ((i : Int) - 1).toNat = i - 1 from by omega]
 unfold runErr
 rw [rd45, hp, if_neg (fun h => h h1), if_neg (show ¬ win (l.getD i z45).f0 0 1000000000 = false from by unfold win; rw [decide_eq_true h2.1, decide_eq_true h2.2]; decide), if_neg (fun h => by have := h3 h.1; omega)]
 exact h4
end
end Go.Proofs.Ytbpebehbfpgjbaa.P
end
section
namespace Go.Proofs.Ytbpebehbfpgjbaa.P
open Go.RowKit Go.Proofs.YtbpebehbfpgjbaaW.PrintWords Go.Proofs.YtbpebehbfpgjbaaW.PrintLast Go.Proofs.YtbpebehbfpgjbaaW.PrintMore
set_option linter.unusedVariables false
set_option linter.unusedSimpArgs false
def pkN (n : Int) (w : Nat) : Nat := (Int.tmod (Int.tmod n w + w) w).toNat
theorem pkN_lt (n : Int) (w : Nat) (h : 0 < w) : pkN n w < w := by
 unfold pkN
 have m1 := Int.lt_tmod_of_pos n (show (0 : Int) < (w : Int) by omega)
 rw [Int.tmod_eq_emod_of_nonneg zr13]
 have q2 := Int.emod_lt_of_pos (Int.tmod n (w : Int) + (w : Int)) (show (0 : Int) < w by omega)
 omega
theorem pick_eq (n : Int) (w : Nat) (h0 : 0 < w) (h1 : w ≤ 1000) : culletlaw07_picked.f n 0 ((w : Int) - 1) = some ((pkN n w : Nat) : Int) := by
 have e2 : wrap64 (wrap64 ((w : Int) - 1 - 0) + 1) = (w : Int) := by unfold wrap64; omega
 unfold culletlaw07_picked.f pkN
 rw [e2, if_neg zr13]
 have m1 := Int.lt_tmod_of_pos n (show (0 : Int) < (w : Int) by omega)
 have m2 := Int.tmod_lt_of_pos n (show (0 : Int) < (w : Int) by omega)
 generalize Int.tmod n (w : Int) = m at *
 have e3 : wrap64 (m + (w : Int)) = m + w := by unfold wrap64; omega
 rw [e3, Int.tmod_eq_emod_of_nonneg zr13]
 have q1 := Int.emod_nonneg (m + (w : Int)) (show (w : Int) ≠ 0 by omega)
 have q2 := Int.emod_lt_of_pos (m + (w : Int)) (show (0 : Int) < w by omega)
 generalize (m + (w : Int)) % (w : Int) = q at *
 rw [show wrap64 (0 + q) = q from by unfold wrap64; omega, show ((q.toNat : Nat) : Int) = q from by omega]
structure His where
 out : List S45
 br : List Bool
 t : Int
def brk (b : List Bool) (s : Nat) : Bool := b.getD s false
def finds (st : List S56) (b : List Bool) (c : Int) : Nat → Bool
 | 0 => false
 | n + 1 => finds st b c n || (!brk b n && clmB st n c)
def samples (st : List S56) (h : His) (t : Int) (s : Nat) : List S45 := (rd_T56 st s).f1.map (fun c => ⟨t, 2, 0, 0, s, c.f0, !brk h.br s⟩)
def hstep (st : List S56) (h : His) (x : S53) : His :=
 let s := pkN x.f3 st.length
 let t := h.t + pkN x.f0 61
 let out := if x.f4 = true then h.out ++ samples st h t s else h.out ++ [⟨t, 1, pkN x.f1 6, 0, 0, 0, finds st h.br x.f2 st.length⟩]
 let b := if x.f4 = true then h.br.set s false else h.br
 ⟨out, if x.f5 = true then b.set s true else b, t⟩
def hist (st : List S56) (xs : List S53) : His := xs.foldl (hstep st) ⟨[], List.replicate st.length false, 0⟩
theorem hist_snoc (st : List S56) (xs : List S53) (x : S53) : hist st (xs ++ [x]) = hstep st (hist st xs) x := by simp [hist]
theorem brk_set (b : List Bool) (s k : Nat) (v : Bool) (hs : s < b.length) : brk (b.set s v) k = if k = s then v else brk b k := by
 unfold brk
 rw [List.getD_eq_getElem?_getD, List.getD_eq_getElem?_getD]
 by_cases h : k = s
 ·subst h
  rw [List.getElem?_set_self hs, if_pos rfl]
  rfl
 ·rw [List.getElem?_set_ne (fun e => h e.symm), if_neg h]
theorem hstep_br (st : List S56) (h : His) (x : S53) : (hstep st h x).br.length = h.br.length := by
 unfold hstep
 simp only
 split <;> split <;> simp
theorem hist_br (st : List S56) : ∀ xs : List S53, (hist st xs).br.length = st.length := by
 intro xs
 have go : ∀ (xs : List S53) (h : His), (xs.foldl (hstep st) h).br.length = h.br.length := by
  intro xs
  induction xs with
  | nil => intro h; rfl
  | cons x xs ih => intro h; rw [List.foldl_cons, ih, hstep_br]
 unfold hist
 rw [go]
 simp
theorem hstep_out (st : List S56) (h : His) (x : S53) : ∃ m, (hstep st h x).out = h.out ++ m ∧ (x.f4 = true → m = samples st h (h.t + pkN x.f0 61) (pkN x.f3 st.length)) ∧ (x.f4 = false → m = [⟨h.t + pkN x.f0 61, 1, pkN x.f1 6, 0, 0, 0, finds st h.br x.f2 st.length⟩]) := by
 unfold hstep
 cases hx : x.f4
 ·exact ⟨[⟨h.t + pkN x.f0 61, 1, pkN x.f1 6, 0, 0, 0, finds st h.br x.f2 st.length⟩], zr38, (fun h => by cases h), fun _ => rfl⟩
 ·exact ⟨samples st h (h.t + pkN x.f0 61) (pkN x.f3 st.length), zr38, (fun _ => rfl), (fun h => by cases h)⟩
theorem fold_pre (st : List S56) : ∀ (ys : List S53) (h : His), ∃ m, (ys.foldl (hstep st) h).out = h.out ++ m
 | [], h => ⟨[], zr38⟩
 | y :: ys, h => by
  obtain ⟨m, hm⟩ := fold_pre st ys (hstep st h y)
  obtain ⟨m2, hm2, _⟩ := hstep_out st h y
  exact ⟨m2 ++ m, by rw [List.foldl_cons, hm, hm2, List.append_assoc]⟩
theorem rclaims_l0 (a0 : Int) (fl : List S58) (st : List S56) (s : Nat) (c : Int) (hs : s < st.length) (hL : (rd_T56 st (s : Int)).f1.length ≤ 8) : ∀ r j k, j + r = (rd_T56 st (s : Int)).f1.length → r < k → culletlaw07_claims.l0 k (s : Int) c (j : Int) a0 fl st = some (((rd_T56 st (s : Int)).f1.drop j).any (fun x => x.f0 == c))
 | 0, j, k, h, hk => by
  obtain ⟨k, rfl⟩ : ∃ m, k = m + 1 := ⟨k - 1, zr13⟩
  have hj : j = (rd_T56 st (s : Int)).f1.length := by omega
  subst hj
  rw [culletlaw07_claims.l0, if_pos zr13, if_pos zr13, if_neg zr13, List.drop_length]
  rfl
 | r + 1, j, k, h, hk => by
  obtain ⟨k, rfl⟩ : ∃ m, k = m + 1 := ⟨k - 1, zr13⟩
  have hj : j < (rd_T56 st (s : Int)).f1.length := by omega
  have hrd : rd_T68 (rd_T56 st (s : Int)).f1 (j : Int) = (rd_T56 st (s : Int)).f1[j] := by
   unfold rd_T68
   rw [Int.toNat_natCast, List.getD_eq_getElem?_getD, List.getElem?_eq_getElem hj, Option.getD_some]
  rw [culletlaw07_claims.l0, if_pos zr13, if_pos zr13, if_pos zr13, if_pos zr13, hrd, List.drop_eq_getElem_cons hj, List.any_cons]
  by_cases h1 : (rd_T56 st (s : Int)).f1[j].f0 = c
  ·rw [if_pos h1, show ((rd_T56 st (s : Int)).f1[j].f0 == c) = true from by simpa using h1]
   rfl
  ·rw [if_neg h1, show ((rd_T56 st (s : Int)).f1[j].f0 == c) = false from by simpa using h1, wsucc j zr13, rclaims_l0 a0 fl st s c hs hL r (j + 1) k zr13 zr13, Bool.false_or]
theorem rclaims_eq (a0 : Int) (fl : List S58) (st : List S56) (s : Nat) (c : Int) (hs : s < st.length) (hL : (rd_T56 st (s : Int)).f1.length ≤ 8) (k : Nat) (hk : 9 ≤ k) : culletlaw07_claims.f k a0 fl st (s : Int) c = some (clmB st s c) :=
 rclaims_l0 a0 fl st s c hs hL (rd_T56 st (s : Int)).f1.length 0 k zr13 zr13
theorem rdOf_nat (b : List Bool) (s : Nat) : rdOf false b (s : Int) = brk b s := by
 unfold rdOf brk
 rw [Int.toNat_natCast]
section
variable {a0 : Int} {fl : List S58} {st : List S56}
theorem rhist_l1 (hL : ∀ i, i < st.length → (rd_T56 st (i : Nat)).f1.length ≤ 8) (X : List S53) (b : List Bool) (hb : b.length = st.length) (t : Int) (i : Nat) (s : Nat) (hs : s < st.length) (x : S53) (out : List S45) (ho : out.length ≤ 10000) (R : Option (List S45)) (K : Nat)
  (hR : ∀ k, K ≤ k → culletlaw07_history.l0 k X (out ++ (rd_T56 st s).f1.map (fun c => (⟨t, 2, 0, 0, s, c.f0, !brk b s⟩ : S45))) (if x.f5 = true then (b.set s false).set s true else b.set s false) t (wrap64 ((i : Int) + 1)) a0 fl st = R) :
  ∀ r j k, j + r = (rd_T56 st s).f1.length → r + K < k → culletlaw07_history.l1 k X (out ++ ((rd_T56 st s).f1.take j).map (fun c => (⟨t, 2, 0, 0, s, c.f0, !brk b s⟩ : S45))) b t (i : Int) (s : Int) (j : Int) a0 fl st x.f0 x.f1 x.f2 x.f3 x.f4 x.f5 = R
 | 0, j, k, h, hk => by
  obtain ⟨k, rfl⟩ : ∃ m, k = m + 1 := ⟨k - 1, zr13⟩
  have hj : j = (rd_T56 st s).f1.length := by omega
  subst hj
  have hR' := hR k zr13
  rw [culletlaw07_history.l1, if_pos zr13, if_pos zr13, if_neg zr13, if_pos zr13, List.take_length, Option.bind_some, Int.toNat_natCast]
  cases hx : x.f5
  ·rw [hx, if_neg zr27] at hR'
   rw [if_neg zr27]
   exact hR'
  ·rw [hx, if_pos rfl] at hR'
   rw [if_pos rfl]
   exact hR'
 | r + 1, j, k, h, hk => by
  obtain ⟨k, rfl⟩ : ∃ m, k = m + 1 := ⟨k - 1, zr13⟩
  have hj : j < (rd_T56 st s).f1.length := by omega
  have h8 := hL s hs
  have hrd : rd_T68 (rd_T56 st (s : Int)).f1 (j : Int) = (rd_T56 st (s : Int)).f1[j] := by
   unfold rd_T68
   rw [Int.toNat_natCast, List.getD_eq_getElem?_getD, List.getElem?_eq_getElem hj, Option.getD_some]
  have ih := rhist_l1 hL X b hb t i s hs x out ho R K hR r (j + 1) k zr13 zr13
  rw [List.take_succ_eq_append_getElem hj, List.map_append, ← List.append_assoc] at ih
  rw [culletlaw07_history.l1, if_pos zr13, if_pos zr13, if_pos zr13, if_pos zr13, if_pos zr13, if_pos (by rw [List.length_append, List.length_map, List.length_take]; omega), rdOf_nat, hrd, wsucc j zr13]
  exact ih
theorem rhist_l2 (hL : ∀ i, i < st.length → (rd_T56 st (i : Nat)).f1.length ≤ 8) (hn2 : st.length ≤ 4) (X : List S53) (b : List Bool) (hb : b.length = st.length) (t : Int) (i : Nat) (s : Nat) (hs : s < st.length) (x : S53) (out : List S45) (ho : out.length ≤ 10000) (R : Option (List S45)) (K : Nat) (hK : 10 ≤ K)
  (hR : ∀ k, K ≤ k → culletlaw07_history.l0 k X (out ++ [(⟨t, 1, (pkN x.f1 6 : Nat), 0, 0, 0, finds st b x.f2 st.length⟩ : S45)]) (if x.f5 = true then b.set s true else b) t (wrap64 ((i : Int) + 1)) a0 fl st = R) :
  ∀ r j k, j + r = st.length → r + K < k → culletlaw07_history.l2 k X out b t (i : Int) (s : Int) (finds st b x.f2 j) (j : Int) a0 fl st x.f0 x.f1 x.f2 x.f3 x.f4 x.f5 = R
 | 0, j, k, h, hk => by
  obtain ⟨k, rfl⟩ : ∃ m, k = m + 1 := ⟨k - 1, zr13⟩
  have hj : j = st.length := by omega
  subst hj
  have hR' := hR k zr13
  have hp : culletlaw07_picked.f x.f1 0 5 = some ((pkN x.f1 6 : Nat) : Int) := pick_eq x.f1 6 zr27 zr27
  rw [culletlaw07_history.l2, if_neg zr13, hp, Option.bind_some, if_pos zr13, Option.bind_some]
  cases hx : x.f5
  ·rw [hx, if_neg zr27] at hR'
   rw [if_neg zr27]
   exact hR'
  ·rw [hx, if_pos rfl] at hR'
   rw [if_pos rfl, if_pos zr13, if_pos zr13, Int.toNat_natCast]
   exact hR'
 | r + 1, j, k, h, hk => by
  obtain ⟨k, rfl⟩ : ∃ m, k = m + 1 := ⟨k - 1, zr13⟩
  have ih := rhist_l2 hL hn2 X b hb t i s hs x out ho R K hK hR r (j + 1) k zr13 zr13
  have hf : finds st b x.f2 (j + 1) = (finds st b x.f2 j || (!brk b j && clmB st j x.f2)) := rfl
  rw [hf] at ih
  rw [culletlaw07_history.l2, if_pos zr13, wsucc j zr13]
  cases h1 : finds st b x.f2 j
  ·rw [h1] at ih
   rw [if_neg zr27, if_pos zr13, if_pos zr13, rdOf_nat]
   cases h2 : brk b j
   ·rw [h2] at ih
    rw [if_neg zr27, rclaims_eq a0 fl st j x.f2 zr13 (hL j zr13) k zr13, Option.bind_some]
    simpa using ih
   ·rw [h2] at ih
    rw [if_pos rfl]
    simpa using ih
  ·rw [h1] at ih
   rw [if_pos rfl]
   simpa using ih
theorem samples_len (h : His) (t : Int) (s : Nat) : (samples st h t s).length = (rd_T56 st s).f1.length := by unfold samples; rw [List.length_map]
theorem hist_len (hL : ∀ i, i < st.length → (rd_T56 st (i : Nat)).f1.length ≤ 8) (h0 : 0 < st.length) : ∀ xs : List S53, (hist st xs).out.length ≤ 8 * xs.length := by
 have go : ∀ (xs : List S53) (h : His), (xs.foldl (hstep st) h).out.length ≤ h.out.length + 8 * xs.length := by
  intro xs
  induction xs with
  | nil => intro h; simp
  | cons x xs ih =>
   intro h
   have h1 := ih (hstep st h x)
   obtain ⟨m, hm, m1, m2⟩ := hstep_out st h x
   have hml : m.length ≤ 8 := by
    cases hx : x.f4
    ·rw [m2 hx]; simp
    ·rw [m1 hx, samples_len]; exact hL _ (pkN_lt _ _ h0)
   rw [List.foldl_cons]
   rw [hm, List.length_append] at h1
   rw [List.length_cons]
   omega
 intro xs
 have := go xs ⟨[], List.replicate st.length false, 0⟩
 unfold hist
 simpa using this
theorem hist_t (h0 : 0 < st.length) : ∀ xs : List S53, 0 ≤ (hist st xs).t ∧ (hist st xs).t ≤ 60 * xs.length := by
 have go : ∀ (xs : List S53) (h : His), h.t ≤ (xs.foldl (hstep st) h).t ∧ (xs.foldl (hstep st) h).t ≤ h.t + 60 * xs.length := by
  intro xs
  induction xs with
  | nil => intro h; simp
  | cons x xs ih =>
   intro h
   have h1 := ih (hstep st h x)
   have h2 : (hstep st h x).t = h.t + (pkN x.f0 61 : Nat) := rfl
   have h3 := pkN_lt x.f0 61 zr27
   rw [List.foldl_cons, List.length_cons]
   omega
 intro xs
 have := go xs ⟨[], List.replicate st.length false, 0⟩
 unfold hist
 simp only at this
 omega
theorem rhist_l0 (hL : ∀ i, i < st.length → (rd_T56 st (i : Nat)).f1.length ≤ 8) (h0 : 0 < st.length) (hn2 : st.length ≤ 4) (X : List S53) (hX : X.length ≤ 15) : ∀ r i k, i + r = X.length → 20 * r + 20 < k →
  culletlaw07_history.l0 k X (hist st (X.take i)).out (hist st (X.take i)).br (hist st (X.take i)).t (i : Int) a0 fl st = some (hist st X).out
 | 0, i, k, h, hk => by
  obtain ⟨k, rfl⟩ : ∃ m, k = m + 1 := ⟨k - 1, zr13⟩
  have hi : i = X.length := by omega
  subst hi
  rw [culletlaw07_history.l0, if_neg zr13, List.take_length]
 | r + 1, i, k, h, hk => by
  obtain ⟨k, rfl⟩ : ∃ m, k = m + 1 := ⟨k - 1, zr13⟩
  have hi : i < X.length := by omega
  have hx : rd_T53 X (i : Int) = X[i] := by
   unfold rd_T53
   rw [Int.toNat_natCast, List.getD_eq_getElem?_getD, List.getElem?_eq_getElem hi, Option.getD_some]
  have htk : hist st (X.take (i + 1)) = hstep st (hist st (X.take i)) X[i] := by rw [List.take_succ_eq_append_getElem hi, hist_snoc]
  have hp1 : culletlaw07_picked.f X[i].f0 0 60 = some ((pkN X[i].f0 61 : Nat) : Int) := pick_eq _ 61 zr27 zr27
  have hp2 : culletlaw07_picked.f X[i].f3 0 (wrap64 ((st.length : Int) - 1)) = some ((pkN X[i].f3 st.length : Nat) : Int) := by rw [wpred st.length zr13]; exact pick_eq _ _ h0 zr13
  have hpl := pkN_lt X[i].f3 st.length h0
  have hp6 := pkN_lt X[i].f0 61 zr27
  have ht := hist_t (st := st) h0 (X.take i)
  have hlen := hist_len hL h0 (X.take i)
  have hbr := hist_br st (X.take i)
  have hti : (X.take i).length ≤ 15 := by rw [List.length_take]; omega
  have ih : ∀ k', r * 20 + 20 < k' → culletlaw07_history.l0 k' X (hist st (X.take (i + 1))).out (hist st (X.take (i + 1))).br (hist st (X.take (i + 1))).t (wrap64 ((i : Int) + 1)) a0 fl st = some (hist st X).out := fun k' hk' => by
   rw [wsucc i zr13]
   exact rhist_l0 hL h0 hn2 X hX r (i + 1) k' zr13 zr13
  rw [htk] at ih
  generalize hist st (X.take i) = H at *
  have hw : wrap64 (H.t + ((pkN X[i].f0 61 : Nat) : Int)) = H.t + ((pkN X[i].f0 61 : Nat) : Int) := by unfold wrap64; omega
  rw [culletlaw07_history.l0, if_pos zr13, if_pos zr13, hx, hp1, Option.bind_some, hp2, Option.bind_some, hw]
  cases hf : X[i].f4
  ·rw [if_neg zr27]
   have e1 : (hstep st H X[i]).out = H.out ++ [(⟨H.t + (pkN X[i].f0 61 : Nat), 1, (pkN X[i].f1 6 : Nat), 0, 0, 0, finds st H.br X[i].f2 st.length⟩ : S45)] := by unfold hstep; simp [hf]
   have e2 : (hstep st H X[i]).br = if X[i].f5 = true then H.br.set (pkN X[i].f3 st.length) true else H.br := by unfold hstep; simp [hf]
   have e3 : (hstep st H X[i]).t = H.t + (pkN X[i].f0 61 : Nat) := rfl
   rw [e1, e2, e3] at ih
   have := rhist_l2 (a0 := a0) (fl := fl) hL hn2 X H.br hbr (H.t + (pkN X[i].f0 61 : Nat)) i (pkN X[i].f3 st.length) hpl X[i] H.out zr13 _ (r * 20 + 21) zr13 (fun k' hk' => ih k' zr13) st.length 0 k zr13 zr13
   rw [hf] at this
   exact this
  ·rw [if_pos rfl]
   have e1 : (hstep st H X[i]).out = H.out ++ (rd_T56 st (pkN X[i].f3 st.length)).f1.map (fun c => (⟨H.t + (pkN X[i].f0 61 : Nat), 2, 0, 0, (pkN X[i].f3 st.length : Nat), c.f0, !brk H.br (pkN X[i].f3 st.length)⟩ : S45)) := by unfold hstep samples; simp [hf]
   have e2 : (hstep st H X[i]).br = if X[i].f5 = true then (H.br.set (pkN X[i].f3 st.length) false).set (pkN X[i].f3 st.length) true else H.br.set (pkN X[i].f3 st.length) false := by unfold hstep; simp [hf]
   have e3 : (hstep st H X[i]).t = H.t + (pkN X[i].f0 61 : Nat) := rfl
   rw [e1, e2, e3] at ih
   have := rhist_l1 (a0 := a0) (fl := fl) hL X H.br hbr (H.t + (pkN X[i].f0 61 : Nat)) i (pkN X[i].f3 st.length) hpl X[i] H.out zr13 _ (r * 20 + 21) (fun k' hk' => ih k' zr13) (rd_T56 st (pkN X[i].f3 st.length : Nat)).f1.length 0 k zr13 (by have := hL _ hpl; omega)
   rw [hf] at this
   simpa using this
theorem rhist_eq (hL : ∀ i, i < st.length → (rd_T56 st (i : Nat)).f1.length ≤ 8) (h0 : 0 < st.length) (hn2 : st.length ≤ 4) (X : List S53) (hX : X.length ≤ 15) : culletlaw07_history.f 400 a0 fl st X = some (hist st X).out := by
 unfold culletlaw07_history.f
 rw [if_pos zr13, if_pos zr13, Int.toNat_natCast]
 exact rhist_l0 (a0 := a0) (fl := fl) hL h0 hn2 X hX X.length 0 400 zr13 zr13
end
end Go.Proofs.Ytbpebehbfpgjbaa.P
end
section
namespace Go.Proofs.Ytbpebehbfpgjbaa.P
open Go.RowKit Go.Proofs.YtbpebehbfpgjbaaW.PrintWords Go.Proofs.YtbpebehbfpgjbaaW.PrintLast Go.Proofs.YtbpebehbfpgjbaaW.PrintMore
set_option linter.unusedVariables false
set_option linter.unusedSimpArgs false
section
variable {every : Int} {fl : List S58} {st : List S56}
theorem stand_claims (h : ∀ i, i < st.length → standErr fl st i = 0) (s : Nat) (hs : s < st.length) : claimsS fl (rd_T56 st s).f1 = 0 := by
 have h1 := h s hs
 unfold standErr at h1
 split at h1
 ·exact absurd h1 zr27
 ·split at h1
  ·exact absurd h1 zr27
  ·exact h1
theorem claim_class (h : ∀ i, i < st.length → standErr fl st i = 0) (s : Nat) (hs : s < st.length) (c : S68) (hc : c ∈ (rd_T56 st s).f1) : 0 ≤ c.f0 ∧ c.f0 ≤ (fl.length : Int) - 1 := by
 have h1 := stand_claims h s hs
 unfold claimsS at h1
 split at h1
 ·exact absurd h1 zr27
 ·obtain ⟨j, hj, rfl⟩ := List.mem_iff_getElem.1 hc
  have h2 := firstErr_zero _ _ _ h1 j zr13 zr13
  have hrd : rd_T68 (rd_T56 st (s : Int)).f1 (j : Int) = (rd_T56 st (s : Int)).f1[j] := by
   unfold rd_T68
   rw [Int.toNat_natCast, List.getD_eq_getElem?_getD, List.getElem?_eq_getElem hj, Option.getD_some]
  unfold claimErr at h2
  rw [hrd] at h2
  split at h2
  ·exact absurd h2 zr27
  ·rename_i h3
   exact win_true (by simpa using h3)
theorem win_mk {a b c : Int} (h1 : b ≤ a) (h2 : a ≤ c) : ¬ win a b c = false := by
 unfold win
 rw [decide_eq_true h1, decide_eq_true h2]
 decide
theorem ent_bottle (t : Int) (lot : Nat) (hl : lot < 6) (f : Bool) : entErr fl st ⟨t, 1, (lot : Int), 0, 0, 0, f⟩ = 0 := by
 have w1 : win (lot : Int) 0 1000000 = true := by simpa using win_mk (a := (lot : Int)) (b := 0) (c := 1000000) zr13 zr13
 have w2 : win 0 0 999 = true := rfl
 unfold entErr
 simp [w1, w2]
theorem ent_sample (h : ∀ i, i < st.length → standErr fl st i = 0) (t : Int) (s : Nat) (hs : s < st.length) (c : S68) (hc : c ∈ (rd_T56 st s).f1) (f : Bool) : entErr fl st ⟨t, 2, 0, 0, (s : Int), c.f0, f⟩ = 0 := by
 have h1 := claim_class h s hs c hc
 have h2 : clmB st (s : Int) c.f0 = true := by
  unfold clmB
  rw [List.any_eq_true]
  exact ⟨c, hc, zr38⟩
 unfold entErr
 simp only
 rw [if_neg zr27, if_neg (win_mk zr13 zr13), if_neg (win_mk h1.1 h1.2), h2, if_neg zr27]
 simp
def Entry (fl : List S58) (st : List S56) (t : Int) (x : S45) : Prop := (x.f1 = 1 ∨ x.f1 = 2) ∧ 0 ≤ x.f0 ∧ x.f0 ≤ t ∧ entErr fl st x = 0
def Logged (fl : List S58) (st : List S56) (t : Int) (l : List S45) : Prop := (∀ x ∈ l, Entry fl st t x) ∧ l.Pairwise (fun a b => a.f0 ≤ b.f0)
theorem Logged.app {t t' : Int} {l m : List S45} (h : Logged fl st t l) (ht : t ≤ t') (hm : ∀ x ∈ m, Entry fl st t' x ∧ x.f0 = t') : Logged fl st t' (l ++ m) := by
 refine ⟨fun x hx => ?_, List.pairwise_append.2 ⟨h.2, ?_, fun a ha b hb => ?_⟩⟩
 ·rcases List.mem_append.1 hx with hx | hx
  ·obtain ⟨a, b, c, d⟩ := h.1 x hx
   exact ⟨a, b, zr13, d⟩
  ·exact (hm x hx).1
 ·refine List.pairwise_iff_getElem.2 (fun i j hi hj _ => ?_)
  have h1 := (hm _ (List.getElem_mem hi)).2
  have h2 := (hm _ (List.getElem_mem hj)).2
  omega
 ·have h1 := (h.1 a ha).2.2.1
  have h2 := (hm b hb).2
  omega
theorem hist_logged (hse : ∀ i, i < st.length → standErr fl st i = 0) (h0 : 0 < st.length) : ∀ (xs : List S53) (h : His), 0 ≤ h.t → Logged fl st h.t h.out → Logged fl st (xs.foldl (hstep st) h).t (xs.foldl (hstep st) h).out ∧ 0 ≤ (xs.foldl (hstep st) h).t
 | [], h, ht, hl => ⟨hl, ht⟩
 | x :: xs, h, ht, hl => by
  rw [List.foldl_cons]
  obtain ⟨m, hm, m1, m2⟩ := hstep_out st h x
  have e3 : (hstep st h x).t = h.t + (pkN x.f0 61 : Nat) := rfl
  refine hist_logged hse h0 xs (hstep st h x) (by rw [e3]; omega) ?_
  rw [hm, e3]
  refine hl.app zr13 (fun y hy => ?_)
  cases hx : x.f4
  ·rw [m2 hx, List.mem_singleton] at hy
   subst hy
   exact ⟨⟨.inl rfl, by simp only; omega, Int.le_refl _, ent_bottle _ _ (pkN_lt _ _ zr27) _⟩, rfl⟩
  ·rw [m1 hx] at hy
   unfold samples at hy
   obtain ⟨c, hc, rfl⟩ := List.mem_map.1 hy
   exact ⟨⟨.inr rfl, by simp only; omega, Int.le_refl _, ent_sample hse _ _ (pkN_lt _ _ h0) c hc _⟩, rfl⟩
theorem logged_log {t : Int} {l : List S45} (hc : chkS every fl st = 0) (h : Logged fl st t l) (ht : t ≤ 1000000000) (hl : l.length ≤ 512) : logS every fl st l = 0 := by
 refine Valid.log hc hl (fun i hi => ?_)
 have hg : ∀ (j : Nat) (hj : j < l.length), l.getD j z45 = l[j] := fun j hj => by rw [List.getD_eq_getElem?_getD, List.getElem?_eq_getElem hj, Option.getD_some]
 obtain ⟨h1, h2, h3, h4⟩ := h.1 l[i] (List.getElem_mem hi)
 refine runErr_mk ?_ ?_ (fun h0 => ?_) ?_
 ·rw [hg i hi]; exact h1
 ·rw [hg i hi]; omega
 ·rw [hg i hi, hg (i - 1) zr13]
  exact List.pairwise_iff_getElem.1 h.2 (i - 1) i zr13 hi zr13
 ·rw [hg i hi]; exact h4
def Broken (l : List S45) (b : List Bool) (s : Nat) (c : Int) (a : Nat) : Prop :=
 ((∀ j, a ≤ j → j < l.length → ¬ isCh l s c j) ∧ brk b s = true) ∨ ∃ j, a ≤ j ∧ j < l.length ∧ isCh l s c j ∧ (l.getD j z45).f6 = false ∧ ∀ j', a ≤ j' → j' < j → ¬ isCh l s c j'
theorem getD_app2 (l m : List S45) (j : Nat) : (l ++ m).getD (l.length + j) z45 = m.getD j z45 := by
 rw [List.getD_eq_getElem?_getD, List.getD_eq_getElem?_getD, List.getElem?_append_right zr13, show l.length + j - l.length = j from by omega]
theorem first_ch (m : List S45) (p : S45 → Bool) : ∀ (hm : m.any p = true), ∃ j, j < m.length ∧ p (m.getD j z45) = true ∧ ∀ j', j' < j → p (m.getD j' z45) = false := by
 induction m with
 | nil => intro h; simp at h
 | cons x m ih =>
  intro h
  cases hx : p x
  ·rw [List.any_cons, hx, Bool.false_or] at h
   obtain ⟨j, h1, h2, h3⟩ := ih h
   refine ⟨j + 1, by simpa using h1, by simpa using h2, fun j' hj' => ?_⟩
   cases j' with
   | zero => simpa using hx
   | succ j' => simpa using h3 j' zr13
  ·exact ⟨0, zr38, by simpa using hx, fun j' h => by omega⟩
theorem Broken.step {h : His} {s : Nat} {c : Int} {a : Nat} (x : S53) (h0 : 0 < st.length) (hbr : h.br.length = st.length) (hs : s < st.length) (hc : clmB st s c = true) (ha : a ≤ h.out.length) (hB : Broken h.out h.br s c a) : Broken (hstep st h x).out (hstep st h x).br s c a := by
 obtain ⟨m, hm, m1, m2⟩ := hstep_out st h x
 have hp := pkN_lt x.f3 st.length h0
 rw [hm]
 have hlen : (h.out ++ m).length = h.out.length + m.length := List.length_append
 rcases hB with ⟨h1, h2⟩ | ⟨j, j1, j2, j3, j4, j5⟩
 ·cases hx : x.f4
  ·
   refine .inl ⟨fun j hj hj2 hch => ?_, ?_⟩
   ·by_cases hjl : j < h.out.length
    ·exact h1 j hj hjl ((isCh_app _ _ _ _ _ hjl).1 hch)
    ·have h3 := hch.1
     rw [show j = h.out.length + (j - h.out.length) from by omega, getD_app2, m2 hx] at h3
     have hml : m.length = 1 := by rw [m2 hx]; rfl
     rw [show j - h.out.length = 0 from by omega] at h3
     exact absurd h3 (show ¬ (1 : Int) = 2 by decide)
   ·have e : (hstep st h x).br = if x.f5 = true then h.br.set (pkN x.f3 st.length) true else h.br := by unfold hstep; simp [hx]
    rw [e]
    split
    ·rw [brk_set _ _ _ _ zr13]
     split
     ·rfl
     ·exact h2
    ·exact h2
  ·have e : (hstep st h x).br = if x.f5 = true then (h.br.set (pkN x.f3 st.length) false).set (pkN x.f3 st.length) true else h.br.set (pkN x.f3 st.length) false := by unfold hstep; simp [hx]
   by_cases hsp : s = pkN x.f3 st.length
   ·
    refine .inr ?_
    have hsam : m = (rd_T56 st s).f1.map (fun c => (⟨h.t + pkN x.f0 61, 2, 0, 0, s, c.f0, false⟩ : S45)) := by
     rw [m1 hx]
     unfold samples
     rw [← hsp, h2]
     rfl
    have hany : m.any (fun y => decide (y.f1 = 2) && (decide (y.f4 = (s : Int)) && decide (y.f5 = c))) = true := by
     unfold clmB at hc
     rw [List.any_eq_true] at hc
     obtain ⟨k, hk, he⟩ := hc
     rw [List.any_eq_true]
     refine ⟨⟨h.t + pkN x.f0 61, 2, 0, 0, s, k.f0, false⟩, ?_, ?_⟩
     ·rw [hsam]
      exact List.mem_map.2 ⟨k, hk, rfl⟩
     ·have : k.f0 = c := by simpa using he
      simp [this]
    obtain ⟨j, g1, g2, g3⟩ := first_ch m _ hany
    have hmem : m.getD j z45 ∈ m := by
     rw [List.getD_eq_getElem?_getD, List.getElem?_eq_getElem g1, Option.getD_some]
     exact List.getElem_mem g1
    have g6 : (m.getD j z45).f6 = false := by
     rw [hsam] at hmem
     obtain ⟨k, _, hk⟩ := List.mem_map.1 hmem
     rw [hsam, ← hk]
    refine ⟨h.out.length + j, zr13, zr13, ?_, by rw [getD_app2]; exact g6, fun j' hj' hj2 hch => ?_⟩
    ·unfold isCh
     rw [getD_app2]
     simpa using g2
    ·by_cases hjl : j' < h.out.length
     ·exact h1 j' hj' hjl ((isCh_app _ _ _ _ _ hjl).1 hch)
     ·have h3 := g3 (j' - h.out.length) zr13
      unfold isCh at hch
      rw [show j' = h.out.length + (j' - h.out.length) from by omega, getD_app2] at hch
      obtain ⟨q1, q2, q3⟩ := hch
      rw [q1, q2, q3] at h3
      simp at h3
   ·refine .inl ⟨fun j hj hj2 hch => ?_, ?_⟩
    ·by_cases hjl : j < h.out.length
     ·exact h1 j hj hjl ((isCh_app _ _ _ _ _ hjl).1 hch)
     ·have h3 := hch.2.1
      rw [show j = h.out.length + (j - h.out.length) from by omega, getD_app2] at h3
      have hjm : j - h.out.length < m.length := by omega
      have hmem : m.getD (j - h.out.length) z45 ∈ m := by
       rw [List.getD_eq_getElem?_getD, List.getElem?_eq_getElem hjm, Option.getD_some]
       exact List.getElem_mem hjm
      rw [m1 hx] at hmem
      unfold samples at hmem
      obtain ⟨k, _, hk⟩ := List.mem_map.1 hmem
      rw [m1 hx] at h3
      unfold samples at h3
      rw [← hk] at h3
      exact hsp (by simp only at h3; omega)
    ·rw [e]
     split
     ·rw [brk_set _ _ _ _ (by rw [List.length_set]; omega), if_neg hsp, brk_set _ _ _ _ zr13, if_neg hsp]
      exact h2
     ·rw [brk_set _ _ _ _ zr13, if_neg hsp]
      exact h2
 ·refine .inr ⟨j, j1, zr13, (isCh_app _ _ _ _ _ j2).2 j3, by rw [getD_app _ _ _ j2]; exact j4, fun j' h1 h2 hch => j5 j' h1 h2 ((isCh_app _ _ _ _ _ zr13).1 hch)⟩
theorem Broken.fold {s : Nat} {c : Int} {a : Nat} (h0 : 0 < st.length) (hs : s < st.length) (hc : clmB st s c = true) : ∀ (ys : List S53) (h : His), h.br.length = st.length → a ≤ h.out.length → Broken h.out h.br s c a → Broken (ys.foldl (hstep st) h).out (ys.foldl (hstep st) h).br s c a
 | [], h, _, _, hB => hB
 | y :: ys, h, hbr, ha, hB => by
  rw [List.foldl_cons]
  obtain ⟨m, hm, _⟩ := hstep_out st h y
  exact Broken.fold h0 hs hc ys (hstep st h y) (by rw [hstep_br]; exact hbr) (by rw [hm, List.length_append]; omega) (hB.step y h0 hbr hs hc ha)
theorem Broken.trust {l : List S45} {b : List Bool} {s : Nat} {c : Int} {a : Nat} (hB : Broken l b s c a) (hne : ¬ isCh l s c a) : trU every st l s c a ≠ 1 := by
 rw [trU_scan]
 split
 ·decide
 ·unfold trustP
  split
  ·decide
  ·split
   ·decide
   ·rcases behN_spec l s c (a : Int) l.length with ⟨e, _⟩ | ⟨j, e0, e, e1, e2, e3⟩
    ·rw [if_pos zr13]
     split <;> decide
    ·rw [if_neg zr13, e, rd45]
     rcases hB with ⟨h1, _⟩ | ⟨i, i1, i2, i3, i4, i5⟩
     ·exact absurd e1 (h1 j zr13 e0)
     ·have : i = j := by
       by_cases x : i < j
       ·exact absurd i3 (e3 i x zr13)
       ·by_cases y : j < i
        ·exact absurd e1 (i5 j zr13 y)
        ·omega
      subst this
      rw [if_pos i4]
      decide
theorem how_zero {l : List S45} {c : Int} {a : Nat} (h : ∀ s : Nat, s < st.length → trU every st l s c a ≠ 1) : ∀ n, n ≤ st.length → howN every st l c a 1 n = 0
 | 0, _ => rfl
 | n + 1, hn => by
  unfold howN
  rw [if_neg (h n zr13), how_zero h n zr13]
theorem finds_all {b : List Bool} {c : Int} : ∀ n, finds st b c n = false → ∀ s, s < n → clmB st (s : Nat) c = true → brk b s = true
 | 0, _, s, hs, _ => by omega
 | n + 1, h, s, hs, hc => by
  unfold finds at h
  rw [Bool.or_eq_false_iff] at h
  by_cases e : s = n
  ·subst e
   have := h.2
   rw [hc, Bool.and_true] at this
   simpa using this
  ·exact finds_all n h.1 s zr13 hc
theorem nothing_clear (h0 : 0 < st.length) (xs : List S53) (x : S53) (ys : List S53) (hx : x.f4 = false) (F : Nat) (hF : F < fl.length) (hxF : x.f2 = (F : Int)) (hneed : 1 ≤ (rd_T58 fl (F : Int)).f1) :
  (judgeS every fl st (hist st (xs ++ x :: ys)).out ((hist st xs).out.length : Nat)).1 ≠ 2 ∧ (hist st (xs ++ x :: ys)).out.getD (hist st xs).out.length z45 = ⟨(hist st xs).t + pkN x.f0 61, 1, pkN x.f1 6, 0, 0, 0, finds st (hist st xs).br x.f2 st.length⟩ ∧ (hist st xs).out.length < (hist st (xs ++ x :: ys)).out.length := by
 have e1 : hist st (xs ++ x :: ys) = ys.foldl (hstep st) (hstep st (hist st xs) x) := by unfold hist; rw [List.foldl_append, List.foldl_cons]
 have hbr := hist_br st xs
 obtain ⟨m, hm, _, m2⟩ := hstep_out st (hist st xs) x
 obtain ⟨m3, hm3⟩ := fold_pre st ys (hstep st (hist st xs) x)
 have hent : (hist st (xs ++ x :: ys)).out.getD (hist st xs).out.length z45 = ⟨(hist st xs).t + pkN x.f0 61, 1, pkN x.f1 6, 0, 0, 0, finds st (hist st xs).br x.f2 st.length⟩ := by
  rw [e1, hm3, hm, m2 hx, List.append_assoc]
  have := getD_app2 (hist st xs).out ([⟨(hist st xs).t + pkN x.f0 61, 1, pkN x.f1 6, 0, 0, 0, finds st (hist st xs).br x.f2 st.length⟩] ++ m3) 0
  rw [Nat.add_zero] at this
  rw [this]
  rfl
 have hlt : (hist st xs).out.length < (hist st (xs ++ x :: ys)).out.length := by
  rw [e1, hm3, hm, m2 hx]
  simp
 refine ⟨?_, hent, hlt⟩
 unfold judgeS
 rw [rd45, hent]
 simp only
 cases hfind : finds st (hist st xs).br x.f2 st.length
 ·rw [if_neg zr27]
  intro h2
  have hz : ∀ s : Nat, s < st.length → trU every st (hist st (xs ++ x :: ys)).out s (F : Int) ((hist st xs).out.length : Nat) ≠ 1 := fun s hs => by
   by_cases hc : clmB st s (F : Int) = true
   ·have hb := finds_all _ hfind s hs (by rw [hxF]; exact hc)
    have hB0 : Broken (hist st xs).out (hist st xs).br s F (hist st xs).out.length := .inl ⟨fun j h1 h2 => by omega, hb⟩
    have hB := Broken.fold (a := (hist st xs).out.length) h0 hs hc (x :: ys) (hist st xs) hbr (Nat.le_refl _) hB0
    rw [List.foldl_cons, ← e1] at hB
    exact hB.trust (fun hch => by have := hch.1; rw [hent] at this; exact absurd this (show ¬ (1 : Int) = 2 by decide))
   ·rw [trU_scan, if_pos (by simpa using hc)]
    decide
  obtain ⟨_, h4⟩ := (judgeL_2 every st _ _ fl 0 _ zr27).1 h2
  have h5 := h4 F hF
  rw [Nat.zero_add, how_zero hz st.length (Nat.le_refl _)] at h5
  omega
 ·rw [if_pos rfl]
  decide
end
theorem pick_plain (n : Int) (m : Nat) (lm : Int) (h0 : 0 < m) (h1 : m ≤ 1000) (hlm : (m : Int) - 1 = lm) (w : World) : Calls Try.prog 20 #[.int .i64 n, .int .i64 0, .int .i64 lm] w fun e w' => e = .returned (.int .i64 ((pkN n m : Nat) : Int)) ∧ ∃ nd, w' = w.drewN nd :=
 (culletlaw07_picked.calls n 0 lm _ w (by rw [← hlm]; exact pick_eq n m h0 h1)).mono (by rintro e w' ⟨rfl, ⟨nd, rfl⟩⟩; exact ⟨rfl, nd, rfl⟩)
set_option maxHeartbeats 8000000 in
set_option maxRecDepth 100000 in
theorem nothing_walk (a0_0 : Int) (A0_1 : Option Addr) (c0_1 : Nat) (l0_1 : List S58) (A0_2 : Option Addr) (c0_2 : Nat) (l0_2 : List S56) (A1 : Option Addr) (c1 : Nat) (l1 : List S53) (w : World)
  (hr0_1 : Kd.C k58 w A0_1 l0_1.length l0_1) (hc0_1 : l0_1.length ≤ c0_1) (hr0_2 : Kd.C k56 w A0_2 l0_2.length l0_2) (hc0_2 : l0_2.length ≤ c0_2) (hr1 : Kd.C k53 w A1 l1.length l1) (hc1 : l1.length ≤ c1) :
  Calls Try.prog 5 #[.agg #[.int .i64 a0_0, .slice A0_1 l0_1.length c0_1, .slice A0_2 l0_2.length c0_2], .slice A1 l1.length c1] w fun e w' => e = .returned (.bool true) ∧ Below w.heap.size w w' := by
 have hb1 := (Below.refl w.heap.size w).alloc (Nat.le_refl _) (.cells #[.int .i64 a0_0, .slice A0_1 l0_1.length c0_1, .slice A0_2 l0_2.length c0_2] 25)
 obtain ⟨b, hb, hbig⟩ := many_some a0_0 l0_1 l0_2 [] 60 zr13
 have hmany0 := culletlaw07_many.calls 60 a0_0 A0_1 c0_1 l0_1 A0_2 c0_2 l0_2 none 0 [] b _ (Kd.C_below hr0_1 hb1) hc0_1 (Kd.C_below hr0_2 hb1) hc0_2 (Kd.C_nil k45 _) (Nat.le_refl _) hb
 have hmany : Calls Try.prog 10 #[.agg #[.int .i64 a0_0, .slice A0_1 l0_1.length c0_1, .slice A0_2 l0_2.length c0_2], .slice none 0 0] _ _ := hmany0
 have HB1 := Aside0.mk hb1
 have HC1 := Aside0.mk (blk_new w (.cells #[.int .i64 a0_0, .slice A0_1 l0_1.length c0_1, .slice A0_2 l0_2.length c0_2] 25))
 have hlooks := fun W => culletlaw07_looks.calls true W rfl
 cases b
 ·have hln := hbig rfl
  have hcheck := fun (W : World) (hW : Below w.heap.size w W) => culletref07_Check.calls 140 a0_0 A0_1 c0_1 l0_1 A0_2 c0_2 l0_2 _ W (Kd.C_below hr0_1 hW) hc0_1 (Kd.C_below hr0_2 hW) hc0_2 (rCheck_eq a0_0 l0_1 l0_2 140 zr13)
  by_cases h15 : l1.length ≤ 15
  ·have g15 : decide (15 < l1.length) = false := decide_eq_false zr13
   have g15b : decide (15 < (l1.length : Int)) = false := decide_eq_false zr13
   by_cases hst : l0_2.length = 0
   ·have gs : ((l0_2.length : Int) == 0) = true := by rw [beq_iff_eq]; omega
    have gs2 : (l0_2.length == 0) = true := by rw [beq_iff_eq]; exact hst
    have hle : l0_2 = [] := List.length_eq_zero_iff.1 hst
    clear hr0_1 hr0_2 hr1 hbig hb hb1 hln h15 hst hcheck hle
    go_enter Try.func5, Try.ntmps5
    go_wp2_with (first
     | (go_at_call 10; (with_reducible refine hmany.mono ?_); rintro e w1 ⟨rfl, hb⟩; have HB2 := Aside0.mk (below_step HB1.out hb); have HC2 := Aside0.mk (blk_below HC1.out hb); have hc00 : w1.cell? ⟨w.heap.size, 0, none⟩ = some (.int .i64 a0_0) := (blk_cell HC2.out 0).trans rfl; have hc01 : w1.cell? ⟨w.heap.size, 1, none⟩ = some (.slice A0_1 l0_1.length c0_1) := (blk_cell HC2.out 1).trans rfl; have hc02 : w1.cell? ⟨w.heap.size, 2, none⟩ = some (.slice A0_2 l0_2.length c0_2) := (blk_cell HC2.out 2).trans rfl; clear hb)
     | (go_at_call 11; (with_reducible refine (hlooks _).mono ?_); rintro e w9 ⟨rfl, hb⟩; have HB9 := Aside0.mk (below_step HB2.out hb); clear hb))
    go_ret
    exact ⟨rfl, HB9.out⟩
   ·have gs : ((l0_2.length : Int) == 0) = false := by rw [beq_eq_false_iff_ne]; omega
    have gs2 : (l0_2.length == 0) = false := by rw [beq_eq_false_iff_ne]; exact hst
    by_cases hch : chkS a0_0 l0_1 l0_2 = 0
    ·have hv0 := chkS_zero hch
     have hL8 := chkS_claims hch
     have h0 : 0 < l0_2.length := by omega
     have hn2 : l0_2.length ≤ 4 := hv0.2.2.1
     have hn1 : l0_1.length ≤ 8 := hv0.2.1
     have hhist := fun (W : World) (hW : Below w.heap.size w W) => culletlaw07_history.calls 400 a0_0 A0_1 c0_1 l0_1 A0_2 c0_2 l0_2 A1 c1 l1 _ W (Kd.C_below hr0_1 hW) hc0_1 (Kd.C_below hr0_2 hW) hc0_2 (Kd.C_below hr1 hW) hc1 (rhist_eq hL8 h0 hn2 l1 h15)
     have hlen := hist_len hL8 h0 l1
     have hlg := hist_logged (fl := l0_1) hv0.2.2.2.2 h0 l1 ⟨[], List.replicate l0_2.length false, 0⟩ (Int.le_refl _) ⟨fun x hx => by simp at hx, List.Pairwise.nil⟩
     have htt := hist_t (st := l0_2) h0 l1
     have hlog : logS a0_0 l0_1 l0_2 (hist l0_2 l1).out = 0 := logged_log hch hlg.1 (by have := htt.2; unfold hist at this; omega) zr13
     have HLOG := Aside0.mk hlog
     have HLN := Aside0.mk (show (hist l0_2 l1).out.length ≤ 120 by omega)
     have HH := Aside0.mk (And.intro hv0 (And.intro hL8 (And.intro h0 h15)))
     obtain ⟨L, hL⟩ : ∃ L, (hist l0_2 l1).out = L := ⟨_, rfl⟩
     rw [hL] at hhist HLOG HLN
     have HLE := Aside0.mk hL
     have hclog := fun (w3 : World) (hW : Below w.heap.size w w3) (AL : Option Addr) (cL : Nat) (h1 : Kd.C k45 w3 AL L.length L) (h2 : L.length ≤ cL) => checklog_plain a0_0 A0_1 c0_1 l0_1 A0_2 c0_2 l0_2 AL cL L w3 (Kd.C_below hr0_1 hW) hc0_1 (Kd.C_below hr0_2 hW) hc0_2 h1 h2
     rw [HLOG.out] at hclog
     have hlots := fun (w3 : World) (hW : Below w.heap.size w w3) (AL : Option Addr) (cL : Nat) (h1 : Kd.C k45 w3 AL L.length L) (h2 : L.length ≤ cL) (W : World) (hW2 : Below w3.heap.size w3 W) => inspect_Lots.calls a0_0 A0_1 c0_1 l0_1 A0_2 c0_2 l0_2 AL cL L _ _ _ _ W (Kd.C_below (Kd.C_below hr0_1 hW) hW2) hc0_1 (Kd.C_below (Kd.C_below hr0_2 hW) hW2) hc0_2 (Kd.C_below h1 hW2) h2 (show inspect_Lots.f a0_0 l0_1 l0_2 L = some ((lotsF a0_0 l0_1 l0_2 L).1, (lotsF a0_0 l0_1 l0_2 L).2.1, (lotsF a0_0 l0_1 l0_2 L).2.2.1, (lotsF a0_0 l0_1 l0_2 L).2.2.2) from rfl)
     have eL : lotsF a0_0 l0_1 l0_2 L = ((lotsP L L.length).filter (fun m => lotState a0_0 l0_1 l0_2 L m == 2), (lotsP L L.length).filter (fun m => lotState a0_0 l0_1 l0_2 L m == 3), (lotsP L L.length).filter (fun m => !(lotState a0_0 l0_1 l0_2 L m == 2) && !(lotState a0_0 l0_1 l0_2 L m == 3)), 0) := by
      unfold lotsF; rw [if_neg (fun hh => hh HLOG.out)]
     rw [eL] at hlots
     simp only at hlots
     obtain ⟨LP, hLP⟩ : ∃ x, (lotsP L L.length).filter (fun m => lotState a0_0 l0_1 l0_2 L m == 2) = x := ⟨_, rfl⟩
     rw [hLP] at hlots
     have HLP := Aside0.mk hLP
     have hjudge := fun (w3 : World) (hW : Below w.heap.size w w3) (AL : Option Addr) (cL : Nat) (h1 : Kd.C k45 w3 AL L.length L) (h2 : L.length ≤ cL) => judge_plain a0_0 A0_1 c0_1 l0_1 A0_2 c0_2 l0_2 AL cL L w3 (Kd.C_below hr0_1 hW) hc0_1 (Kd.C_below hr0_2 hW) hc0_2 h1 h2 HLOG.out
     have HR1 := Aside0.mk hr1
     have HR01 := Aside0.mk hr0_1
     have HR02 := Aside0.mk hr0_2
     have HX := Aside0.mk (And.intro h15 (And.intro hn1 (And.intro hn2 h0)))
     rw [hch] at hcheck
     clear hr0_1 hr0_2 hr1 hbig hb hb1 hln h15 hst hch hlg htt hlen hlog hv0 hL8 hL eL hLP hn1 hn2 h0
     go_enter Try.func5, Try.ntmps5
     go_wp2_with (first
      | (go_at_call 10; (with_reducible refine hmany.mono ?_); rintro e w1 ⟨rfl, hb⟩; have HB2 := Aside0.mk (below_step HB1.out hb); have HC2 := Aside0.mk (blk_below HC1.out hb); have hc00 : w1.cell? ⟨w.heap.size, 0, none⟩ = some (.int .i64 a0_0) := (blk_cell HC2.out 0).trans rfl; have hc01 : w1.cell? ⟨w.heap.size, 1, none⟩ = some (.slice A0_1 l0_1.length c0_1) := (blk_cell HC2.out 1).trans rfl; have hc02 : w1.cell? ⟨w.heap.size, 2, none⟩ = some (.slice A0_2 l0_2.length c0_2) := (blk_cell HC2.out 2).trans rfl; clear hb)
      | (go_at_call 22; (with_reducible refine (hcheck _ HB2.out).mono ?_); rintro e w2 ⟨rfl, hb⟩; have HB3 := Aside0.mk (below_step HB2.out hb); have HC3 := Aside0.mk (blk_below HC2.out hb); have hd00 : w2.cell? ⟨w.heap.size, 0, none⟩ = some (.int .i64 a0_0) := (blk_cell HC3.out 0).trans rfl; have hd01 : w2.cell? ⟨w.heap.size, 1, none⟩ = some (.slice A0_1 l0_1.length c0_1) := (blk_cell HC3.out 1).trans rfl; have hd02 : w2.cell? ⟨w.heap.size, 2, none⟩ = some (.slice A0_2 l0_2.length c0_2) := (blk_cell HC3.out 2).trans rfl; clear hb)
      | (go_at_call 23; (with_reducible refine (hhist _ HB3.out).mono ?_); rintro e w3 ⟨v0, rfl, q0, hb⟩; obtain ⟨AL, cL, e1, hcL, gL⟩ := Kd.R_reads q0; subst e1; have HB4 := Aside0.mk (below_step HB3.out hb); have HC4 := Aside0.mk (blk_below HC3.out hb); have GL := Aside0.mk gL; have ML := Aside0.mk hcL; have he00 : w3.cell? ⟨w.heap.size, 0, none⟩ = some (.int .i64 a0_0) := (blk_cell HC4.out 0).trans rfl; have he01 : w3.cell? ⟨w.heap.size, 1, none⟩ = some (.slice A0_1 l0_1.length c0_1) := (blk_cell HC4.out 1).trans rfl; have he02 : w3.cell? ⟨w.heap.size, 2, none⟩ = some (.slice A0_2 l0_2.length c0_2) := (blk_cell HC4.out 2).trans rfl; clear hb q0 gL hcL)
      | (go_at_call 19; (with_reducible refine (hclog w3 HB4.out AL cL GL.out ML.out _ (Below.refl _ _)).mono ?_); rintro e w4 ⟨rfl, hb⟩; have HB34 := Aside0.mk hb; have HB5 := Aside0.mk (below_step HB4.out hb); have HC5 := Aside0.mk (blk_below HC4.out hb); have hf00 : w4.cell? ⟨w.heap.size, 0, none⟩ = some (.int .i64 a0_0) := (blk_cell HC5.out 0).trans rfl; have hf01 : w4.cell? ⟨w.heap.size, 1, none⟩ = some (.slice A0_1 l0_1.length c0_1) := (blk_cell HC5.out 1).trans rfl; have hf02 : w4.cell? ⟨w.heap.size, 2, none⟩ = some (.slice A0_2 l0_2.length c0_2) := (blk_cell HC5.out 2).trans rfl; clear hb)
      | (go_at_call 17; (with_reducible refine (hlots w3 HB4.out AL cL GL.out ML.out _ HB34.out).mono ?_); rintro e w5 ⟨v1, v2, v3, rfl, q0, q1, q2, hb⟩; obtain ⟨AP, cP, e1, hcP, gP⟩ := Kd.R_reads q0; obtain ⟨AQ, cQ, e2, hcQ, gQ⟩ := Kd.R_reads q1; obtain ⟨AO, cO, e3, hcO, gO⟩ := Kd.R_reads q2; subst e1 e2 e3; have HB35 := Aside0.mk (below_step HB34.out hb); have HB6 := Aside0.mk (below_step HB5.out hb); have HC6 := Aside0.mk (blk_below HC5.out hb); have GP := Aside0.mk gP; have MP := Aside0.mk hcP; clear hb q0 q1 q2 gP gQ gO hcP hcQ hcO))
     clear hc00 hc01 hc02 hd00 hd01 hd02 he00 he01 he02 hf00 hf01 hf02 hmany0 hmany hcheck hhist hclog hlots
     go_loopg [10, 11, 12, 13, 14, 15] l1.length (fun gg s10 s11 s12 s13 s14 s15 wr => ∃ (i : Nat), s11 = .int .i64 (i : Int) ∧ s10 = .int .i64 (((hist l0_2 (l1.take i)).out.length : Int) - 1) ∧ Aside0 (i ≤ l1.length ∧ l1.length - i ≤ gg) ∧ Aside0 (Below w5.heap.size w5 wr))
     case atStart => exact ⟨0, rfl, congrArg (Value.int .i64) (by simp [hist]), ⟨zr13, zr13⟩, ⟨Below.refl _ _⟩⟩
     case round =>
      obtain ⟨i, rfl, rfl, hi, HB⟩ := hrel
      by_cases hlt : i < l1.length
      ·have hb0 : decide (i < l1.length) = true := decide_eq_true hlt
       have hq0 : 0 ≤ (i : Int) := by omega
       have hq1 : (i : Int) ≤ 14 := by have := HX.out.1; omega
       have HBr := Aside0.mk (below_step HB6.out HB.out)
       have HCr := Aside0.mk (blk_below HC6.out HB.out)
       obtain ⟨ad, rfl, hx0, hx1, hx2, hx3, hx4, hx5⟩ := at_T53 HR1.out (i : Int) hq0 zr13
       simp only [Int.toNat_natCast] at hx0 hx1 hx2 hx3 hx4 hx5
       replace hx0 := (HBr.out.cell (World.block_lt_of_cell? w _ hx0)).trans hx0
       replace hx1 := (HBr.out.cell (World.block_lt_of_cell? w _ hx1)).trans hx1
       replace hx2 := (HBr.out.cell (World.block_lt_of_cell? w _ hx2)).trans hx2
       replace hx3 := (HBr.out.cell (World.block_lt_of_cell? w _ hx3)).trans hx3
       replace hx4 := (HBr.out.cell (World.block_lt_of_cell? w _ hx4)).trans hx4
       replace hx5 := (HBr.out.cell (World.block_lt_of_cell? w _ hx5)).trans hx5
       have HXI := Aside0.mk (show rd_T53 l1 (i : Int) = l1[i] by
        unfold rd_T53
        rw [Int.toNat_natCast, List.getD_eq_getElem?_getD, List.getElem?_eq_getElem hlt, Option.getD_some])
       have HTK := Aside0.mk (show hist l0_2 (l1.take (i + 1)) = hstep l0_2 (hist l0_2 (l1.take i)) l1[i] by rw [List.take_succ_eq_append_getElem hlt, hist_snoc])
       have HAL := Aside0.mk (show (hist l0_2 (l1.take i)).out.length ≤ 120 by have := hist_len HH.out.2.1 HX.out.2.2.2 (l1.take i); have h2 := List.length_take_le i l1; have := HX.out.1; omega)
       obtain ⟨x, hx⟩ : ∃ x, l1[i] = x := ⟨_, rfl⟩
       rw [hx] at HXI HTK
       rw [HXI.out] at hx0 hx1 hx2 hx3 hx4 hx5
       have HXE := Aside0.mk hx
       clear hx
       go_upto_region 14 with (fail)
       obtain ⟨g, hg⟩ : ∃ g, wr.heap.size = g := ⟨_, rfl⟩
       rw [hg]
       obtain ⟨wx, hwx⟩ : ∃ wx, wr.alloc (.cells #[.int .i64 x.f0, .int .i64 x.f1, .int .i64 x.f2, .int .i64 x.f3, .bool x.f4, .bool x.f5] 53) = wx := ⟨_, rfl⟩
       rw [hwx]
       have HBX := Aside0.mk (show Below w5.heap.size w5 wx by rw [← hwx]; exact HB.out.alloc HB.out.size _)
       have HXB := Aside0.mk (show wx.heap[g]? = some (.cells #[.int .i64 x.f0, .int .i64 x.f1, .int .i64 x.f2, .int .i64 x.f3, .bool x.f4, .bool x.f5] 53 (0, 0)) by rw [← hwx, ← hg]; exact blk_new wr _)
       have HBW := Aside0.mk (below_step HB6.out HBX.out)
       have HB3X := Aside0.mk (below_step HB35.out HBX.out)
       have HCX := Aside0.mk (blk_below HC6.out HBX.out)
       have hy2 : wx.cell? ⟨g, 2, none⟩ = some (.int .i64 x.f2) := (blk_cell HXB.out 2).trans rfl
       have hy3 : wx.cell? ⟨g, 3, none⟩ = some (.int .i64 x.f3) := (blk_cell HXB.out 3).trans rfl
       have HY4 := Aside0.mk (show wx.cell? ⟨g, 4, none⟩ = some (.bool x.f4) from (blk_cell HXB.out 4).trans rfl)
       have hc0 : wx.cell? ⟨w.heap.size, 0, none⟩ = some (.int .i64 a0_0) := (blk_cell HCX.out 0).trans rfl
       have hc1' : wx.cell? ⟨w.heap.size, 1, none⟩ = some (.slice A0_1 l0_1.length c0_1) := (blk_cell HCX.out 1).trans rfl
       have hc2 : wx.cell? ⟨w.heap.size, 2, none⟩ = some (.slice A0_2 l0_2.length c0_2) := (blk_cell HCX.out 2).trans rfl
       clear hx0 hx1 hx2 hx3 hx4 hx5 hwx hg
       obtain ⟨a, ha⟩ : ∃ a, (hist l0_2 (l1.take i)).out.length = a := ⟨_, rfl⟩
       rw [ha] at HAL
       rw [ha]
       have ha0 := HAL.out
       have ha1 : -1 ≤ (a : Int) - 1 := by omega
       have ha2 : (a : Int) - 1 ≤ 200 := by omega
       have hst1 : l0_2.length ≤ 4 := HX.out.2.2.1
       have hst0 : 0 < l0_2.length := HX.out.2.2.2
       cases hf4 : x.f4
       ·rw [hf4] at HY4
        have hy4 := HY4.out
        have HNL := Aside0.mk (show (hist l0_2 (l1.take (i + 1))).out.length = a + 1 by
         obtain ⟨m, hm, _, m2⟩ := hstep_out l0_2 (hist l0_2 (l1.take i)) x
         rw [HTK.out, hm, m2 hf4, List.length_append, ha]; rfl)
        obtain ⟨q, hq⟩ : ∃ q, x.f2 = q := ⟨_, rfl⟩
        rw [hq] at hy2
        by_cases hq0' : q < 0
        ·have u0 : decide (q < 0) = true := decide_eq_true hq0'
         clear hq0' hjudge
         go_wp2
         go_roundg (l1.length - (i + 1))
         case measure => have := hi.out; omega
         case rel => exact ⟨i + 1, by go_num, congrArg (Value.int .i64) (by rw [HNL.out]; omega), ⟨zr13⟩, ⟨zr26⟩⟩
        ·have u0 : decide (q < 0) = false := decide_eq_false hq0'
         have u00 : 0 ≤ q := by omega
         by_cases hq1' : q ≥ l0_1.length
         ·have u1 : decide (q ≥ (l0_1.length : Int)) = true := decide_eq_true hq1'
          have u2 : decide ((l0_1.length : Int) ≤ q) = true := decide_eq_true hq1'
          clear hq0' hq1' hjudge
          go_wp2
          go_roundg (l1.length - (i + 1))
          case measure => have := hi.out; omega
          case rel => exact ⟨i + 1, by go_num, congrArg (Value.int .i64) (by rw [HNL.out]; omega), ⟨zr13⟩, ⟨zr26⟩⟩
         ·have u1 : decide (q ≥ (l0_1.length : Int)) = false := decide_eq_false hq1'
          have u2 : decide ((l0_1.length : Int) ≤ q) = false := decide_eq_false hq1'
          have u3 : q < (l0_1.length : Int) := by omega
          have u4 := eq_true u3
          have u5 : decide (q < (l0_1.length : Int)) = true := decide_eq_true u3
          obtain ⟨ad3, e3, hz0, hz1⟩ := at_T58 HR01.out q u00 u3
          replace hz1 := (HBW.out.cell (World.block_lt_of_cell? w _ hz1)).trans hz1
          obtain ⟨nd0, hnd⟩ : ∃ n0, (rd_T58 l0_1 q).f1 = n0 := ⟨_, rfl⟩
          rw [hnd] at hz1
          subst e3
          clear hz0
          by_cases hn0 : nd0 = 0
          ·have u6 : (nd0 == 0) = true := by simpa using hn0
           clear hq0' hq1' hjudge hn0 hnd
           go_wp2
           go_roundg (l1.length - (i + 1))
           case measure => have := hi.out; omega
           case rel => exact ⟨i + 1, by go_num, congrArg (Value.int .i64) (by rw [HNL.out]; omega), ⟨zr13⟩, ⟨zr26⟩⟩
          ·have u6 : (nd0 == 0) = false := by simpa using hn0
           have hneed : 1 ≤ (rd_T58 l0_1 q).f1 := by
            have hfl := HH.out.1.2.2.2.1 q.toNat zr13
            unfold flawErr at hfl
            rw [show ((q.toNat : Nat) : Int) = q from by omega] at hfl
            split at hfl
            ·exact absurd hfl zr27
            ·split at hfl
             ·exact absurd hfl zr27
             ·split at hfl
              ·exact absurd hfl zr27
              ·rename_i hw
               have := win_true (by simpa using hw)
               omega
           have hsplit : l1.take i ++ x :: l1.drop (i + 1) = l1 := by
            rw [← HXE.out, ← List.drop_eq_getElem_cons hlt, List.take_append_drop]
           have hlaw := nothing_clear (every := a0_0) (fl := l0_1) (st := l0_2) HX.out.2.2.2 (l1.take i) x (l1.drop (i + 1)) hf4 q.toNat zr13 zr13 (by rw [show ((q.toNat : Nat) : Int) = q from by omega]; exact hneed)
           rw [hsplit, ha, HLE.out] at hlaw
           obtain ⟨k1, k2, k3⟩ := hlaw
           have hk1 : (L.getD a z45).f1 = 1 := by rw [k2]
           have hvd : vdS a0_0 l0_1 l0_2 L a = (judgeS a0_0 l0_1 l0_2 L a).1 := by unfold vdS; rw [if_pos hk1]
           rw [← hvd] at k1
           have hju := fun (W : World) (hW : Below w3.heap.size w3 W) => hjudge w3 HB4.out AL cL GL.out ML.out a k3 hk1 W hW
           have HV2 := Aside0.mk k1
           obtain ⟨ad4, e4, hm0, hm1, hm2, hm3, hm4, hm5, hm6⟩ := at_T45 GL.out (a : Int) zr13 zr13
           rw [show rd_T45 L (a : Int) = L.getD a z45 from rfl] at hm2 hm6
           simp only [Int.toNat_natCast] at hm2 hm6
           subst e4
           have hat0 : 0 ≤ (a : Int) := by omega
           have hat1 : (a : Int) < (L.length : Int) := by omega
           have hat2 : decide (a < L.length) = true := decide_eq_true k3
           have HM2 := Aside0.mk hm2
           have HM6 := Aside0.mk hm6
           have hfacts : (L.getD a z45).f6 = false → LP.any (fun y => y == (L.getD a z45).f2) = false := fun h6 => by
            have hkb : keptB L a = true := by unfold keptB; rw [hk1, h6]; rfl
            obtain ⟨f1, f2, _⟩ := kept_facts (every := a0_0) (fl := l0_1) (st := l0_2) k3 hkb
            rw [← HLP.out, any_filter _ _ _ f1]
            rw [beq_eq_false_iff_ne]
            exact fun h => HV2.out (f2 h)
           have HFA := Aside0.mk hfacts
           have hlpn : LP.length ≤ 1000 := by rw [← HLP.out]; exact Nat.le_trans (List.length_filter_le _ _) (Nat.le_trans (lotsP_len L _) (by have := HLN.out; omega))
           have HLPN := Aside0.mk hlpn
           clear hm0 hm1 hm2 hm3 hm4 hm5 hm6 k1 k2 k3 hk1 hvd hsplit hneed hn0 hnd hq0' hq1' hjudge hfacts hlpn
           generalize vdS a0_0 l0_1 l0_2 L a = v at hju HV2
           have hv2 : (v == 2) = false := by simpa using HV2.out
           cases hf6 : (L.getD a z45).f6
           ·rw [hf6] at HM6
            have hany := HFA.out hf6
            obtain ⟨n, hn⟩ : ∃ n, (L.getD a z45).f2 = n := ⟨_, rfl⟩
            rw [hn] at hany HM2
            have HANY := Aside0.mk hany
            have hcall := fun (W : World) (hr : Kd.C (Kd.int .i64) W AP LP.length LP) => has_plain AP cP LP n false W hr MP.out HLPN.out HANY.out
            clear hany hn HFA
            go_wp2_with (first
             | (go_at_call 21; (with_reducible refine (hju _ HB3X.out).mono ?_); rintro e w7 ⟨rfl, hb⟩; have HBX7 := Aside0.mk (below_step HBX.out hb); have HB37 := Aside0.mk (below_step HB3X.out hb); have hm6 := (HB37.out.cell (World.block_lt_of_cell? w3 _ HM6.out)).trans HM6.out; have hm2 := (HB37.out.cell (World.block_lt_of_cell? w3 _ HM2.out)).trans HM2.out; clear hb)
             | (go_at_call 24; (with_reducible refine (hcall _ ?hw).mono ?_); (case hw => repeat (first | exact (Kd.C_below GP.out HBX7.out) | (with_reducible refine Kd.C_alloc ?_ _) | (with_reducible refine Kd.C_drewN ?_ _) | (with_reducible refine Kd.C_drew ?_))); rintro e w8 ⟨rfl, nd, rfl⟩))
            go_roundg (l1.length - (i + 1))
            case measure => have := hi.out; omega
            case rel => exact ⟨i + 1, by go_num, congrArg (Value.int .i64) (by rw [HNL.out]; omega), ⟨zr13⟩, ⟨zr39⟩⟩
           ·rw [hf6] at HM6
            clear HFA
            go_wp2_with (go_at_call 21; (with_reducible refine (hju _ HB3X.out).mono ?_); rintro e w7 ⟨rfl, hb⟩; have HBX7 := Aside0.mk (below_step HBX.out hb); have HB37 := Aside0.mk (below_step HB3X.out hb); have hm6 := (HB37.out.cell (World.block_lt_of_cell? w3 _ HM6.out)).trans HM6.out; clear hb)
            go_roundg (l1.length - (i + 1))
            case measure => have := hi.out; omega
            case rel => exact ⟨i + 1, by go_num, congrArg (Value.int .i64) (by rw [HNL.out]; omega), ⟨zr13⟩, ⟨zr39⟩⟩
       ·rw [hf4] at HY4
        have hy4 := HY4.out
        obtain ⟨lm, hlm⟩ : ∃ lm : Int, (l0_2.length : Int) - 1 = lm := ⟨_, rfl⟩
        have hwr : wrap64 ((l0_2.length : Int) - 1) = lm := by unfold wrap64; omega
        have hwi : IntKind.i64.wrap ((l0_2.length : Int) - 1) = lm := (i64_w _).trans hwr
        have hpk := pick_plain x.f3 l0_2.length lm hst0 zr13 hlm
        have hpl := pkN_lt x.f3 l0_2.length hst0
        have HNL := Aside0.mk (show (hist l0_2 (l1.take (i + 1))).out.length = a + (rd_T56 l0_2 (pkN x.f3 l0_2.length : Nat)).f1.length by
         obtain ⟨m, hm, m1, _⟩ := hstep_out l0_2 (hist l0_2 (l1.take i)) x
         rw [HTK.out, hm, m1 hf4, List.length_append, ha, samples_len])
        have h8 := HH.out.2.1 (pkN x.f3 l0_2.length) hpl
        generalize pkN x.f3 l0_2.length = p at *
        have hp0 : 0 ≤ (p : Int) := by omega
        have hp1 : (p : Int) < (l0_2.length : Int) := by omega
        have hp2 : decide (p < l0_2.length) = true := decide_eq_true hpl
        have hp3 := eq_true hp0
        have hp4 := eq_true hp1
        obtain ⟨ad2, A2', c2', e2, hz0, hz1, _, _⟩ := at_T56 HR02.out (p : Int) hp0 hp1
        simp only [Int.toNat_natCast] at hz0 hz1
        replace hz1 := (HBW.out.cell (World.block_lt_of_cell? w _ hz1)).trans hz1
        obtain ⟨nl, hnl⟩ : ∃ nl, (rd_T56 l0_2 (p : Int)).f1.length = nl := ⟨_, rfl⟩
        rw [hnl] at hz1 HNL h8
        subst e2
        clear hz0 hlm hjudge hnl
        go_wp2
        go_region_with (go_at_call 20; (with_reducible refine (hpk _).mono ?_); rintro e w6 ⟨rfl, nd, rfl⟩)
        all_goals
         go_wp2
         go_roundg (l1.length - (i + 1))
         case measure => have := hi.out; omega
         case rel => exact ⟨i + 1, by go_num, congrArg (Value.int .i64) (by rw [HNL.out]; omega), ⟨zr13⟩, ⟨zr26⟩⟩
      ·have hb0 : decide (i < l1.length) = false := decide_eq_false hlt
       have HBz := Aside0.mk (below_step HB6.out HB.out)
       clear hjudge
       go_wp2_with (go_at_call 11; (with_reducible refine (hlooks _).mono ?_); rintro e w9 ⟨rfl, hb⟩; have HB9 := Aside0.mk (below_step HBz.out hb); clear hb)
       go_ret
       exact ⟨rfl, HB9.out⟩
    ·obtain ⟨r, hr⟩ : ∃ r, chkS a0_0 l0_1 l0_2 = r := ⟨_, rfl⟩
     rw [hr] at hcheck hch
     have hbe : (r != 0) = true := by simpa using hch
     clear hr0_1 hr0_2 hr1 hbig hb hb1 hln h15 hst hch hr
     go_enter Try.func5, Try.ntmps5
     go_wp2_with (first
      | (go_at_call 10; (with_reducible refine hmany.mono ?_); rintro e w1 ⟨rfl, hb⟩; have HB2 := Aside0.mk (below_step HB1.out hb); have HC2 := Aside0.mk (blk_below HC1.out hb); have hc00 : w1.cell? ⟨w.heap.size, 0, none⟩ = some (.int .i64 a0_0) := (blk_cell HC2.out 0).trans rfl; have hc01 : w1.cell? ⟨w.heap.size, 1, none⟩ = some (.slice A0_1 l0_1.length c0_1) := (blk_cell HC2.out 1).trans rfl; have hc02 : w1.cell? ⟨w.heap.size, 2, none⟩ = some (.slice A0_2 l0_2.length c0_2) := (blk_cell HC2.out 2).trans rfl; clear hb)
      | (go_at_call 22; (with_reducible refine (hcheck _ HB2.out).mono ?_); rintro e w2 ⟨rfl, hb⟩; have HB3 := Aside0.mk (below_step HB2.out hb); have HC3 := Aside0.mk (blk_below HC2.out hb); have hd00 : w2.cell? ⟨w.heap.size, 0, none⟩ = some (.int .i64 a0_0) := (blk_cell HC3.out 0).trans rfl; have hd01 : w2.cell? ⟨w.heap.size, 1, none⟩ = some (.slice A0_1 l0_1.length c0_1) := (blk_cell HC3.out 1).trans rfl; have hd02 : w2.cell? ⟨w.heap.size, 2, none⟩ = some (.slice A0_2 l0_2.length c0_2) := (blk_cell HC3.out 2).trans rfl; clear hb)
      | (go_at_call 11; (with_reducible refine (hlooks _).mono ?_); rintro e w9 ⟨rfl, hb⟩; have HB9 := Aside0.mk (below_step HB3.out hb); clear hb))
     go_ret
     exact ⟨rfl, HB9.out⟩
  ·have g15 : decide (15 < l1.length) = true := decide_eq_true zr13
   have g15b : decide (15 < (l1.length : Int)) = true := decide_eq_true zr13
   clear hr0_1 hr0_2 hr1 hbig hb hb1 hln h15 hcheck
   go_enter Try.func5, Try.ntmps5
   go_wp2_with (first
    | (go_at_call 10; (with_reducible refine hmany.mono ?_); rintro e w1 ⟨rfl, hb⟩; have HB2 := Aside0.mk (below_step HB1.out hb); have HC2 := Aside0.mk (blk_below HC1.out hb); have hc00 : w1.cell? ⟨w.heap.size, 0, none⟩ = some (.int .i64 a0_0) := (blk_cell HC2.out 0).trans rfl; have hc01 : w1.cell? ⟨w.heap.size, 1, none⟩ = some (.slice A0_1 l0_1.length c0_1) := (blk_cell HC2.out 1).trans rfl; have hc02 : w1.cell? ⟨w.heap.size, 2, none⟩ = some (.slice A0_2 l0_2.length c0_2) := (blk_cell HC2.out 2).trans rfl; clear hb)
    | (go_at_call 11; (with_reducible refine (hlooks _).mono ?_); rintro e w9 ⟨rfl, hb⟩; have HB9 := Aside0.mk (below_step HB2.out hb); clear hb))
   go_ret
   exact ⟨rfl, HB9.out⟩
 ·clear hr0_1 hr0_2 hr1 hbig hb hb1
  go_enter Try.func5, Try.ntmps5
  go_wp2_with (first
   | (go_at_call 10; (with_reducible refine hmany.mono ?_); rintro e w1 ⟨rfl, hb⟩; have HB2 := Aside0.mk (below_step HB1.out hb); have HC2 := Aside0.mk (blk_below HC1.out hb); have hc00 : w1.cell? ⟨w.heap.size, 0, none⟩ = some (.int .i64 a0_0) := (blk_cell HC2.out 0).trans rfl; have hc01 : w1.cell? ⟨w.heap.size, 1, none⟩ = some (.slice A0_1 l0_1.length c0_1) := (blk_cell HC2.out 1).trans rfl; have hc02 : w1.cell? ⟨w.heap.size, 2, none⟩ = some (.slice A0_2 l0_2.length c0_2) := (blk_cell HC2.out 2).trans rfl; clear hb)
   | (go_at_call 11; (with_reducible refine (hlooks _).mono ?_); rintro e w9 ⟨rfl, hb⟩; have HB9 := Aside0.mk (below_step HB2.out hb); clear hb))
  go_ret
  exact ⟨rfl, HB9.out⟩
theorem len6 : ∀ cs : List Value, cs.length = 6 → ∃ a b c d e f, cs = [a, b, c, d, e, f]
 | [a, b, c, d, e, f], _ => ⟨a, b, c, d, e, f, rfl⟩
theorem opens_53 : Opens k53 53 := fun {H enc W fuel cs x} h => by
 obtain ⟨xs, n, _, _, hl, hx, hf⟩ := DataW.trod_struct Try.underlying53 h
 rw [show Try.prog.cellsOf 53 = 6 from by kernel_rfl] at hl
 obtain ⟨v0, v1, v2, v3, v4, v5, rfl⟩ := len6 cs hl
 have hx' : xs.length = 6 := hx
 have h0 := hf 0 ⟨ "Gap", 3, 0, false, "", "", 0⟩ rfl
 rw [List.getElem?_eq_getElem zr13] at h0
 simp only [show Try.prog.cellsOf 3 = 1 from by kernel_rfl, List.drop_succ_cons, List.drop_zero, List.take_succ_cons, List.take_zero] at h0
 obtain ⟨a0, k0⟩ := opens_int Try.underlying3 h0
 have h1 := hf 1 ⟨ "Lot", 3, 1, false, "", "", 8⟩ rfl
 rw [List.getElem?_eq_getElem zr13] at h1
 simp only [show Try.prog.cellsOf 3 = 1 from by kernel_rfl, List.drop_succ_cons, List.drop_zero, List.take_succ_cons, List.take_zero] at h1
 obtain ⟨a1, k1⟩ := opens_int Try.underlying3 h1
 have h2 := hf 2 ⟨ "Flaw", 3, 2, false, "", "", 16⟩ rfl
 rw [List.getElem?_eq_getElem zr13] at h2
 simp only [show Try.prog.cellsOf 3 = 1 from by kernel_rfl, List.drop_succ_cons, List.drop_zero, List.take_succ_cons, List.take_zero] at h2
 obtain ⟨a2, k2⟩ := opens_int Try.underlying3 h2
 have h3 := hf 3 ⟨ "Stand", 3, 3, false, "", "", 24⟩ rfl
 rw [List.getElem?_eq_getElem zr13] at h3
 simp only [show Try.prog.cellsOf 3 = 1 from by kernel_rfl, List.drop_succ_cons, List.drop_zero, List.take_succ_cons, List.take_zero] at h3
 obtain ⟨a3, k3⟩ := opens_int Try.underlying3 h3
 have h4 := hf 4 ⟨ "Challenge", 4, 4, false, "", "", 32⟩ rfl
 rw [List.getElem?_eq_getElem zr13] at h4
 simp only [show Try.prog.cellsOf 4 = 1 from by kernel_rfl, List.drop_succ_cons, List.drop_zero, List.take_succ_cons, List.take_zero] at h4
 obtain ⟨a4, k4⟩ := opens_bool Try.underlying4 h4
 have h5 := hf 5 ⟨ "Breaks", 4, 5, false, "", "", 33⟩ rfl
 rw [List.getElem?_eq_getElem zr13] at h5
 simp only [show Try.prog.cellsOf 4 = 1 from by kernel_rfl, List.drop_succ_cons, List.drop_zero, List.take_succ_cons, List.take_zero] at h5
 obtain ⟨a5, k5⟩ := opens_bool Try.underlying4 h5
 exact ⟨⟨a0, a1, a2, a3, a4, a5⟩, [v0], [v1, v2, v3, v4, v5], rfl, k0, [v1], [v2, v3, v4, v5], rfl, k1, [v2], [v3, v4, v5], rfl, k2, [v3], [v4, v5], rfl, k3, [v4], [v5], rfl, k4, k5⟩
theorem opens_49 : Opens (Kd.slice 53 k53) 49 := opens_slice Try.underlying49 zr16 opens_53
theorem open_truths {H : Type} {enc : TypeId × Value → H} {W : World} {v : Value} {d : DataW H} {ps : List MemPlace} (h : DataW.Trod enc Try.prog W 0 (fun _ => true) true 49 v d ps) (hv : ∀ a : Array Value, v ≠ .agg a) :
  ∃ A c l, v = .slice A (List.length (α := S53) l) c ∧ l.length ≤ c ∧ Kd.C k53 W A l.length l := by
 obtain ⟨fuel, hf⟩ := h
 obtain ⟨l, A, c, hc, hl, hC⟩ := opens_49 hf
 exact ⟨A, c, l, cells_one hc hv, hl, hC⟩
end Go.Proofs.Ytbpebehbfpgjbaa.P
end
section
namespace Go.Proofs.Ytbpebehbfpgjbaa.inspectNothing
open Go.ChangeShapes Go.WideShapes Go.ChangeAt Go.RowKit Go.Proofs.Ytbpebehbfpgjbaa.P
set_option linter.unusedVariables false
theorem own : ownKnob Try.prog.godebug = none := by kernel_rfl
theorem laidOut : laidOutB Try.prog = true := by kernel_rfl
set_option maxRecDepth 100000 in
theorem lifted (os : Os) (started : os.Started) (H : Type) (enc : TypeId × Value → H) :
  ReturnsInHanded {} Try.checked os 5 .any (Rows.inspectNothingSpec.pre6 enc Try.prog Try.f5 Rows.inspectNothingRow.domain false) (Rows.inspectNothingSpec.post enc Try.prog Try.f5 false true false false) := by
 refine returnsInHanded_of_change_sized (C := Try.checked) own started zr16 Try.func5
  (ChangeSpec.witness6 (enc := enc) (C := Try.checked) false ⟨#[], #[.agg #[.int .i64 0, .slice none 0 0, .slice none 0 0], .slice none 0 0], []⟩ 8 zr16 zr16 zr16 zr16) ?_
 intro W base args ds gs before hval0 hW hcnd hsz0 _
 have hval : ∀ (j : Nat) t v, Try.f5.params[j]? = some t → args[j]? = some v → Value.okWide Try.prog W .any base t v := hval0
 have hW' := hW
 obtain ⟨p, q, hA0, hV, rfl, hfz, hnd⟩ := hW
 have hA : DataW.TrodAll enc Try.prog W 0 (fun _ => true) true Try.f5.params.toList args.toList ds p := hA0
 rw [Try.params5] at hA hval
 obtain ⟨v0, vs0, d0, ds0, p0, q0, hargs, rfl, rfl, h0, r0⟩ := trodAll_cons hA
 obtain ⟨v1, vs1, d1, ds1, p1, q1, rfl, rfl, rfl, h1, r1⟩ := trodAll_cons r0
 obtain ⟨rfl, rfl, rfl⟩ := trodAll_nil r1
 obtain rfl : args = #[v0, v1] := by cases args; simp_all
 obtain ⟨rfl, rfl⟩ := trodVars_none hV
 have k0 := h0
 have lt0 : ∀ x ∈ p0, x.block < W.heap.size := by obtain ⟨m, hm⟩ := k0; exact DataW.trod_lt m _ _ _ hm
 obtain ⟨a0, A0_1, c0_1, l0_1, A0_2, c0_2, l0_2, rfl, w0, hc0_1, hC0_1, hc0_2, hC0_2⟩ := open_checker h0
 have k1 := h1
 have lt1 : ∀ x ∈ p1, x.block < W.heap.size := by obtain ⟨m, hm⟩ := k1; exact DataW.trod_lt m _ _ _ hm
 obtain ⟨b1, len1, cap1, e1⟩ := okWide_slice Try.underlying49 (hval 1 49 v1 rfl rfl)
 obtain ⟨A1, c1, l1, rfl, hc1, hC1⟩ := open_truths h1 (fun a e => by rw [e] at e1; cases e1)
 clear hA0 hval0 hsz0
 refine (nothing_walk a0 A0_1 c0_1 l0_1 A0_2 c0_2 l0_2 A1 c1 l1 W hC0_1 hc0_1 hC0_2 hc0_2 hC1 hc1).mono fun e W' ⟨he, bel⟩ => ?_
 subst he
 exact ⟨_, rfl, _, _, _, [], _, [], hW', trodAll_mk1 (shut_bool Try.underlying4 _), (trodAll_cons_mk (Below.trod laidOut zr16 (of_decide_eq_true zr16) k0 bel lt0) (trodAll_cons_mk (Below.trod laidOut zr16 (of_decide_eq_true zr16) k1 bel lt1) trodAll_mk0)), rfl, bel.frame _, fun h => by cases h⟩
theorem over : Rows.inspectNothingRow.holds Try.pinned (OpenSpec.ofChange Rows.inspectNothingSpec) :=
 OpenClaim.holds_of_wide 5 Try.f5 rfl rfl rfl rfl rfl rfl rfl ⟨rfl, rfl, rfl, rfl, rfl⟩ rfl rfl rfl rfl rfl zr16 Try.func5 zr16
  (of_decide_eq_true zr16) (by unfold Func.isWrapper; first | (rw [if_pos (by decide +kernel)]; kernel_rfl) | (rw [if_neg (by decide +kernel)]; exact ⟨rfl, rfl⟩))
  (fun os started H enc _ => lifted os started H enc)
theorem proved : Rows.InspectNothingSaid := over
end Go.Proofs.Ytbpebehbfpgjbaa.inspectNothing
namespace Go.Proofs.Ytbpebehbfpgjbaa
theorem inspectNothing_holds : Rows.InspectNothingSaid := inspectNothing.proved
end Go.Proofs.Ytbpebehbfpgjbaa
end
