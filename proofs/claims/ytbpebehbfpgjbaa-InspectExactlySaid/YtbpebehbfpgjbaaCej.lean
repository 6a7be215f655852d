/- InspectExactly, as the seat states it: for every line of inspection, every log and every number the statement's function returns true. No condition beyond the given row's own. -/
import Derived.Test.YtbpebehbfpgjbaaRows
import Derived.WalkKit
import Derived.ProofKit
import Derived.OpenShut
import Derived.ShutString
import Derived.ChangeOld
import Derived.Below
import Derived.SizedLaws
import Derived.Test.YtbpebehbfpgjbaaCeb
import Derived.Test.YtbpebehbfpgjbaaCec
import Derived.Test.YtbpebehbfpgjbaaCeg
import Derived.Test.YtbpebehbfpgjbaaCeh
import Derived.Test.YtbpebehbfpgjbaaCei
section
namespace Go.Proofs.Ytbpebehbfpgjbaa.P
open Go.RowKit Go.Proofs.YtbpebehbfpgjbaaW.PrintWords Go.Proofs.YtbpebehbfpgjbaaW.PrintLast Go.Proofs.YtbpebehbfpgjbaaW.PrintMore
set_option linter.unusedVariables false
set_option linter.unusedSimpArgs false
theorem picked_some (n : Int) (len : Nat) (h0 : 0 < len) (h1 : len ≤ 1000) : ∃ p : Nat, p < len ∧ culletlaw07_picked.f n 0 (wrap64 ((len : Int) - 1)) = some (p : Int) := by
 have e1 : wrap64 ((len : Int) - 1) = (len : Int) - 1 := by unfold wrap64; omega
 have e2 : wrap64 (wrap64 ((len : Int) - 1 - 0) + 1) = (len : Int) := by unfold wrap64; omega
 unfold culletlaw07_picked.f
 rw [e1, e2, if_neg zq21]
 have m1 := Int.lt_tmod_of_pos n (show (0 : Int) < (len : Int) by omega)
 have m2 := Int.tmod_lt_of_pos n (show (0 : Int) < (len : Int) by omega)
 generalize Int.tmod n (len : Int) = m at *
 have e3 : wrap64 (m + (len : Int)) = m + len := by unfold wrap64; omega
 rw [e3, Int.tmod_eq_emod_of_nonneg zq21]
 have q1 := Int.emod_nonneg (m + (len : Int)) (show (len : Int) ≠ 0 by omega)
 have q2 := Int.emod_lt_of_pos (m + (len : Int)) (show (0 : Int) < len by omega)
 generalize (m + (len : Int)) % (len : Int) = q at *
 refine ⟨q.toNat, zq21, ?_⟩
 rw [show wrap64 (0 + q) = q from by unfold wrap64; omega, show ((q.toNat : Nat) : Int) = q from by omega]
structure Flip (l o : List S45) (n : Nat) : Prop where
 len : o.length = l.length
 f0 : ∀ i : Nat, (o.getD i z45).f0 = (l.getD i z45).f0
 f1 : ∀ i : Nat, (o.getD i z45).f1 = (l.getD i z45).f1
 f2 : ∀ i : Nat, (o.getD i z45).f2 = (l.getD i z45).f2
 f3 : ∀ i : Nat, (o.getD i z45).f3 = (l.getD i z45).f3
 f4 : ∀ i : Nat, (o.getD i z45).f4 = (l.getD i z45).f4
 f5 : ∀ i : Nat, (o.getD i z45).f5 = (l.getD i z45).f5
 f6 : ∀ i : Nat, i ≠ n → (o.getD i z45).f6 = (l.getD i z45).f6
theorem flip_set (l : List S45) (n : Nat) (hn : n < l.length) (b : Bool) : Flip l (l.set n ⟨(rd_T45 l n).f0, (rd_T45 l n).f1, (rd_T45 l n).f2, (rd_T45 l n).f3, (rd_T45 l n).f4, (rd_T45 l n).f5, b⟩) n := by
 have hg : ∀ i : Nat, i ≠ n → (l.set n ⟨(rd_T45 l n).f0, (rd_T45 l n).f1, (rd_T45 l n).f2, (rd_T45 l n).f3, (rd_T45 l n).f4, (rd_T45 l n).f5, b⟩).getD i z45 = l.getD i z45 := fun i hi => by
  rw [List.getD_eq_getElem?_getD, List.getElem?_set_ne (fun e => hi e.symm), List.getD_eq_getElem?_getD]
 have hs : (l.set n ⟨(rd_T45 l n).f0, (rd_T45 l n).f1, (rd_T45 l n).f2, (rd_T45 l n).f3, (rd_T45 l n).f4, (rd_T45 l n).f5, b⟩).getD n z45 = ⟨(rd_T45 l n).f0, (rd_T45 l n).f1, (rd_T45 l n).f2, (rd_T45 l n).f3, (rd_T45 l n).f4, (rd_T45 l n).f5, b⟩ := by
  rw [List.getD_eq_getElem?_getD, List.getElem?_set_self hn]
  rfl
 have hr : rd_T45 l (n : Int) = l.getD n z45 := rfl
 refine ⟨zq53, fun i => ?_, fun i => ?_, fun i => ?_, fun i => ?_, fun i => ?_, fun i => ?_, fun i hi => by rw [hg i hi]⟩ <;> by_cases hi : i = n
 all_goals first | (subst hi; rw [hs]; rfl) | rw [hg i hi]
theorem Flip.ch {l o : List S45} {n : Nat} (h : Flip l o n) (s c : Int) (i : Nat) : isCh o s c i ↔ isCh l s c i := by
 unfold isCh
 rw [h.f1, h.f4, h.f5]
theorem Flip.run {l o : List S45} {n : Nat} (h : Flip l o n) (fl : List S58) (st : List S56) (i : Nat) (hi : i < l.length) (h0 : runErr fl st l i = 0) : runErr fl st o i = 0 := by
 have e : ∀ x y : S45, x.f0 = y.f0 → x.f1 = y.f1 → x.f2 = y.f2 → x.f3 = y.f3 → x.f4 = y.f4 → x.f5 = y.f5 → entErr fl st x = entErr fl st y := fun x y a b c d e f => by
  unfold entErr
  rw [b, c, d, e, f]
 have r : ∀ x : List S45, rd_T45 x (i : Int) = x.getD i z45 := fun _ => rfl
 have r1 : ∀ x : List S45, rd_T45 x ((i : Int) - 1) = x.getD (i - 1) z45 := fun x => by unfold rd_T45; rw [show ((i : Int) - 1).toNat = i - 1 from by omega]
 unfold runErr at h0 ⊢
 rw [r, r1] at h0 ⊢
 rw [h.f0, h.f1, h.f0, e _ _ (h.f0 i) (h.f1 i) (h.f2 i) (h.f3 i) (h.f4 i) (h.f5 i)]
 exact h0
theorem Flip.log {l o : List S45} {n : Nat} (h : Flip l o n) {every : Int} {fl : List S58} {st : List S56} (hl : logS every fl st l = 0) : logS every fl st o = 0 := by
 have hv := logS_valid hl
 exact Valid.log (logS_chk hl) (by have := hv.len; have := h.len; omega) (fun i hi => h.run fl st i (by have := h.len; omega) (hv.re i (by have := h.len; omega)))
theorem Flip.trustP {l o : List S45} {n : Nat} (h : Flip l o n) (every p q : Int) (hp : p < 0 ∨ p ≠ n) (hq : q < 0 ∨ q ≠ n) : trustP every o p q = trustP every l p q := by
 have r0 : ∀ x : Int, (rd_T45 o x).f0 = (rd_T45 l x).f0 := fun x => h.f0 _
 have r6 : ∀ x : Int, 0 ≤ x → x ≠ n → (rd_T45 o x).f6 = (rd_T45 l x).f6 := fun x h0 hx => h.f6 _ zq21
 unfold P.trustP
 rw [r0, r0, r0, h.len]
 by_cases h1 : p < 0
 ·rw [if_pos h1, if_pos h1]
 ·rw [if_neg h1, if_neg h1, r6 p zq21 zq21]
  by_cases h2 : q < 0
  ·rw [if_pos h2, if_pos h2]
  ·rw [if_neg h2, if_neg h2, r6 q zq21 zq21]
def behX (l : List S45) (s c : Int) (n : Nat) (i : Nat) : Int := if behN l s c ((n : Int) + 1) i < 0 then (l.length : Int) else behN l s c ((n : Int) + 1) i
theorem Flip.trU {l o : List S45} {n : Nat} (h : Flip l o n) (hn : n < l.length) (hk : (rd_T45 l (n : Int)).f1 = 2) (every : Int) (st : List S56) (s c : Int) (i : Nat) (hi : i < l.length) (hb : (rd_T45 l (i : Int)).f1 = 1)
  (hout : ¬ ((i : Int) > befN l (rd_T45 l (n : Int)).f4 (rd_T45 l (n : Int)).f5 n l.length ∧ (i : Int) < behX l (rd_T45 l (n : Int)).f4 (rd_T45 l (n : Int)).f5 n l.length)) : trU every st o s c i = trU every st l s c i := by
 rw [trU_scan, trU_scan, h.len, befN_congr (h.ch s c), behN_congr (h.ch s c)]
 by_cases hcl : clmB st s c = false
 ·rw [if_pos hcl, if_pos hcl]
 ·rw [if_neg hcl, if_neg hcl]
  have hr : ∀ j : Nat, rd_T45 l (j : Int) = l.getD j z45 := fun _ => rfl
  have hne : ∀ j : Nat, isCh l s c j → j ≠ i := fun j hj e => by
   subst e
   have h1 := hj.1
   rw [hr] at hb
   omega
  have key : isCh l s c n → ¬ ((n : Int) < i ∧ ∀ j' : Nat, n < j' → j' < l.length → (j' : Int) < i → ¬ isCh l s c j') ∧ ¬ ((i : Int) ≤ n ∧ ∀ j' : Nat, j' < n → (i : Int) ≤ j' → ¬ isCh l s c j') := by
   intro hc
   have e4 : (rd_T45 l (n : Int)).f4 = s := hc.2.1
   have e5 : (rd_T45 l (n : Int)).f5 = c := hc.2.2
   rw [e4, e5] at hout
   have b1 := befN_spec l s c (n : Int) l.length
   have b2 := behN_spec l s c ((n : Int) + 1) l.length
   have b3 := behN_lo l s c ((n : Int) + 1) l.length
   have hin : n ≠ i := hne n hc
   refine ⟨fun ⟨g1, g2⟩ => hout ⟨?_, ?_⟩, fun ⟨g1, g2⟩ => hout ⟨?_, ?_⟩⟩
   ·rcases b1 with ⟨e, _⟩ | ⟨j, _, e, _, e2, _⟩ <;> omega
   ·unfold behX
    rcases b2 with ⟨e, _⟩ | ⟨j, e0, e, e1, e2, _⟩
    ·rw [if_pos zq21]; omega
    ·rw [if_neg zq21, e]
     by_cases hj : j < i
     ·exact absurd e1 (g2 j zq21 e0 zq21)
     ·have := hne j e1
      omega
   ·rcases b1 with ⟨e, _⟩ | ⟨j, e0, e, e1, e2, _⟩
    ·omega
    ·rw [e]
     by_cases hj : i ≤ j
     ·exact absurd e1 (g2 j zq21 zq21)
     ·omega
   ·unfold behX
    rcases b2 with ⟨e, _⟩ | ⟨j, e0, e, e1, e2, _⟩
    ·rw [if_pos zq21]; omega
    ·rw [if_neg zq21, e]
     omega
  refine h.trustP every _ _ ?_ ?_
  ·rcases befN_spec l s c (i : Int) l.length with ⟨e, _⟩ | ⟨j, e0, e, e1, e2, e3⟩
   ·exact .inl zq21
   ·refine .inr (fun en => ?_)
    have hjn : j = n := by omega
    subst hjn
    exact (key e1).1 ⟨e2, e3⟩
  ·rcases behN_spec l s c (i : Int) l.length with ⟨e, _⟩ | ⟨j, e0, e, e1, e2, e3⟩
   ·exact .inl zq21
   ·refine .inr (fun en => ?_)
    have hjn : j = n := by omega
    subst hjn
    exact (key e1).2 ⟨e2, e3⟩
theorem exactly_l1 {every : Int} {fl : List S58} {st : List S56} {l o : List S45} {n : Nat} (h : Flip l o n) (hn : n < l.length) (hk : (rd_T45 l (n : Int)).f1 = 2) (hl : logS every fl st l = 0) :
  ∀ r i k, i + r = l.length → 2 * r + 2 < k → culletlaw07_InspectExactly.l1 k l o (befN l (rd_T45 l (n : Int)).f4 (rd_T45 l (n : Int)).f5 n l.length) (behX l (rd_T45 l (n : Int)).f4 (rd_T45 l (n : Int)).f5 n l.length) (i : Int) every fl st = some true
 | 0, i, k, hi, hk' => by
  obtain ⟨k, rfl⟩ : ∃ m, k = m + 1 := ⟨k - 1, zq21⟩
  rw [culletlaw07_InspectExactly.l1, if_neg zq21]
  rfl
 | r + 1, i, k, hi, hk' => by
  obtain ⟨k, rfl⟩ : ∃ m, k = m + 1 + 1 := ⟨k - 2, zq21⟩
  have ih := exactly_l1 h hn hk hl r (i + 1) k zq21 zq21
  have hlen := (logS_valid hl).len
  rw [← wsucc i zq21] at ih
  rw [culletlaw07_InspectExactly.l1, if_pos zq21, if_pos zq21]
  by_cases hb : (rd_T45 l (i : Int)).f1 = 1
  ·rw [if_pos hb]
   have hfalse : ¬ ((i : Int) > befN l (rd_T45 l (n : Int)).f4 (rd_T45 l (n : Int)).f5 n l.length ∧ (i : Int) < behX l (rd_T45 l (n : Int)).f4 (rd_T45 l (n : Int)).f5 n l.length) → culletlaw07_InspectExactly.j4 (k + 1) l o (befN l (rd_T45 l (n : Int)).f4 (rd_T45 l (n : Int)).f5 n l.length) (behX l (rd_T45 l (n : Int)).f4 (rd_T45 l (n : Int)).f5 n l.length) (i : Int) false every fl st = some true := by
    intro hout
    have hr : ∀ x : List S45, rd_T45 x (i : Int) = x.getD i z45 := fun _ => rfl
    have hbo : (rd_T45 o (i : Int)).f1 = 1 := by rw [hr, h.f1, ← hr]; exact hb
    have hni : i ≠ n := fun e => by subst e; omega
    have hj : judgeS every fl st o i = judgeS every fl st l i := judgeS_congr (by rw [hr, hr]; exact h.f6 i hni) (fun s c _ => h.trU hn hk every st s c i zq21 hb hout)
    rw [culletlaw07_InspectExactly.j4, if_neg zq52]
    unfold inspect_Judge.f
    rw [judgeF_ok hl i zq21 hb, judgeF_ok (h.log hl) i (by have := h.len; omega) hbo, hj]
    simp only [Option.bind_some, if_true]
    exact ih
   by_cases h1 : (i : Int) > befN l (rd_T45 l (n : Int)).f4 (rd_T45 l (n : Int)).f5 n l.length
   ·rw [if_pos h1]
    by_cases h2 : (i : Int) < behX l (rd_T45 l (n : Int)).f4 (rd_T45 l (n : Int)).f5 n l.length
    ·rw [decide_eq_true h2, culletlaw07_InspectExactly.j4, if_pos rfl]
     exact ih
    ·rw [decide_eq_false h2]
     exact hfalse (fun hh => h2 hh.2)
   ·rw [if_neg h1]
    exact hfalse (fun hh => h1 hh.1)
  ·rw [if_neg hb, culletlaw07_InspectExactly.j4, if_pos rfl]
   exact ih
theorem exactly_l0 {every : Int} {fl : List S58} {st : List S56} {l o : List S45} {n : Nat} (hn : n < l.length) (hlen : l.length ≤ 512) (R : Option Bool) (K : Nat)
  (hR : ∀ k, K ≤ k → culletlaw07_InspectExactly.l1 k l o (befN l (rd_T45 l (n : Int)).f4 (rd_T45 l (n : Int)).f5 n l.length) (behX l (rd_T45 l (n : Int)).f4 (rd_T45 l (n : Int)).f5 n l.length) 0 every fl st = R) :
  ∀ r i k, i + r = l.length → 2 * r + K < k → culletlaw07_InspectExactly.l0 k l (n : Int) o (befN l (rd_T45 l (n : Int)).f4 (rd_T45 l (n : Int)).f5 n i) (behX l (rd_T45 l (n : Int)).f4 (rd_T45 l (n : Int)).f5 n i) (i : Int) every fl st = R
 | 0, i, k, hi, hk => by
  obtain ⟨k, rfl⟩ : ∃ m, k = m + 1 := ⟨k - 1, zq21⟩
  have : i = l.length := by omega
  subst this
  rw [culletlaw07_InspectExactly.l0, if_neg zq21]
  exact hR k zq21
 | r + 1, i, k, hi, hk => by
  obtain ⟨k, rfl⟩ : ∃ m, k = m + 1 + 1 := ⟨k - 2, zq21⟩
  have ih := exactly_l0 hn hlen R K hR r (i + 1) k zq21 zq21
  rw [← wsucc i zq21] at ih
  generalize hs : (rd_T45 l (n : Int)).f4 = s at *
  generalize hc : (rd_T45 l (n : Int)).f5 = c at *
  have hr : rd_T45 l (i : Int) = l.getD i z45 := rfl
  have hlo := behN_lo l s c ((n : Int) + 1) i
  have hfalse : ¬ isCh l s c i → culletlaw07_InspectExactly.j2 (k + 1) l (n : Int) o (befN l s c n i) (behX l s c n i) (i : Int) false every fl st = R := fun hne => by
   have e1 : befN l s c n (i + 1) = befN l s c n i := by rw [befN, if_neg hne]
   have e2 : behX l s c n (i + 1) = behX l s c n i := by unfold behX; rw [behN, if_neg hne]
   rw [e1, e2] at ih
   rw [culletlaw07_InspectExactly.j2, if_neg zq52]
   exact ih
  rw [culletlaw07_InspectExactly.l0, if_pos zq21, if_pos zq21]
  by_cases h1 : (rd_T45 l (i : Int)).f1 = 2
  ·rw [if_pos h1, if_pos zq21, if_pos zq21, hs, hc]
   by_cases h4 : (rd_T45 l (i : Int)).f4 = s
   ·rw [if_pos h4]
    by_cases h5 : (rd_T45 l (i : Int)).f5 = c
    ·have hch : isCh l s c i := by rw [hr] at h1 h4 h5; exact ⟨h1, h4, h5⟩
     rw [show ((rd_T45 l (i : Int)).f5 == c) = true from by simpa using h5, culletlaw07_InspectExactly.j2, if_pos rfl]
     by_cases hlt : (i : Int) < n
     ·have e1 : befN l s c n (i + 1) = i := by rw [befN, if_pos hch, if_pos hlt]
      have e2 : behX l s c n (i + 1) = behX l s c n i := by
        have e3 : behN l s c ((n : Int) + 1) (i + 1) = behN l s c ((n : Int) + 1) i := by rw [behN, if_pos hch, if_pos zq21]
        unfold behX; rw [e3]
      rw [e1, e2] at ih
      rw [if_pos hlt, if_neg zq21]
      exact ih
     ·have e1 : befN l s c n (i + 1) = befN l s c n i := by rw [befN, if_pos hch, if_neg hlt]
      rw [e1] at ih
      rw [if_neg hlt]
      by_cases hgt : (i : Int) > n
      ·have e2 : behX l s c n (i + 1) = if behN l s c ((n : Int) + 1) i < 0 then (i : Int) else behX l s c n i := by
        have e3 : behN l s c ((n : Int) + 1) (i + 1) = if behN l s c ((n : Int) + 1) i < 0 then (i : Int) else behN l s c ((n : Int) + 1) i := by rw [behN, if_pos hch, if_neg zq21]
        by_cases h7 : behN l s c ((n : Int) + 1) i < 0
        ·have e4 : behN l s c ((n : Int) + 1) (i + 1) = (i : Int) := by rw [e3, if_pos h7]
         unfold behX
         rw [e4, if_neg zq21, if_pos h7]
        ·have e4 : behN l s c ((n : Int) + 1) (i + 1) = behN l s c ((n : Int) + 1) i := by rw [e3, if_neg h7]
         unfold behX
         rw [e4, if_neg h7, if_neg h7]
       rw [e2] at ih
       rw [if_pos hgt]
       by_cases h7 : behN l s c ((n : Int) + 1) i < 0
       ·rw [if_pos h7] at ih
        rw [if_pos (show behX l s c n i = (l.length : Int) from by unfold behX; rw [if_pos h7])]
        exact ih
       ·rw [if_neg h7] at ih
        rw [if_neg (show ¬ behX l s c n i = (l.length : Int) from by unfold behX; rw [if_neg h7]; omega)]
        exact ih
      ·have e2 : behX l s c n (i + 1) = behX l s c n i := by
        have e3 : behN l s c ((n : Int) + 1) (i + 1) = behN l s c ((n : Int) + 1) i := by rw [behN, if_pos hch, if_pos zq21]
        unfold behX; rw [e3]
       rw [e2] at ih
       rw [if_neg hgt]
       exact ih
    ·rw [show ((rd_T45 l (i : Int)).f5 == c) = false from by simpa using h5]
     exact hfalse (fun hh => h5 (by rw [hr]; exact hh.2.2))
   ·rw [if_neg h4]
    exact hfalse (fun hh => h4 (by rw [hr]; exact hh.2.1))
  ·rw [if_neg h1]
   exact hfalse (fun hh => h1 (by rw [hr]; exact hh.1))
theorem exactly_pure (a0 : Int) (fl : List S58) (st : List S56) (l : List S45) (a2 : Int) : culletlaw07_InspectExactly.f 3000 a0 fl st l a2 = some true := by
 obtain ⟨b, hb, _⟩ := many_some a0 fl st l 3000 zq21
 have ht : culletlaw07_InspectExactly.j0 3000 l a2 true a0 fl st = some true := by rw [culletlaw07_InspectExactly.j0, if_pos rfl]; rfl
 unfold culletlaw07_InspectExactly.f
 rw [hb, Option.bind_some]
 cases b
 ·rw [if_neg zq52]
  by_cases h0 : (l.length : Int) = 0
  ·rw [if_pos h0, ht]
  ·rw [if_neg h0]
   by_cases h40 : (l.length : Int) > 40
   ·rw [if_pos h40, ht]
   ·rw [if_neg h40, CheckLog_eq a0 fl st l 3000 zq21, Option.bind_some]
    by_cases hl : logS a0 fl st l = 0
    ·rw [hl, show ((0 : Int) != 0) = false from rfl, culletlaw07_InspectExactly.j0, if_neg zq52]
     obtain ⟨n, hn, hp⟩ := picked_some a2 l.length zq21 zq21
     rw [hp, Option.bind_some, if_pos zq21, if_pos zq21]
     by_cases hk : (rd_T45 l (n : Int)).f1 = 2
     ·rw [if_pos hk]
      simp only [Option.bind_some, List.nil_append, List.length_nil]
      rw [if_pos zq21, if_pos zq21, Int.toNat_natCast]
      have hF := flip_set l n hn (!(rd_T45 l (n : Int)).f6)
      have e0 := exactly_l0 (every := a0) (fl := fl) (st := st) (o := l.set n ⟨(rd_T45 l n).f0, (rd_T45 l n).f1, (rd_T45 l n).f2, (rd_T45 l n).f3, (rd_T45 l n).f4, (rd_T45 l n).f5, !(rd_T45 l n).f6⟩) hn zq21 (some true) 1100
       (fun k hk2 => exactly_l1 hF hn hk hl l.length 0 k zq21 zq21) l.length 0 2999 zq21 zq21
      exact e0
     ·rw [if_neg hk]
      rfl
    ·rw [show (logS a0 fl st l != 0) = true from by simpa using hl, ht]
 ·rw [if_pos rfl, ht]
end Go.Proofs.Ytbpebehbfpgjbaa.P
end
section
namespace Go.Proofs.Ytbpebehbfpgjbaa.inspectExactly
open Go.ChangeShapes Go.WideShapes Go.ChangeAt Go.RowKit Go.Proofs.Ytbpebehbfpgjbaa.P
set_option linter.unusedVariables false
theorem own : ownKnob Try.prog.godebug = none := by kernel_rfl
theorem laidOut : laidOutB Try.prog = true := by kernel_rfl
set_option maxRecDepth 100000 in
theorem lifted (os : Os) (started : os.Started) (H : Type) (enc : TypeId × Value → H) :
  ReturnsInHanded {} Try.checked os 4 .any (Rows.inspectExactlySpec.pre6 enc Try.prog Try.f4 Rows.inspectExactlyRow.domain false) (Rows.inspectExactlySpec.post enc Try.prog Try.f4 false true false false) := by
 refine returnsInHanded_of_change_sized (C := Try.checked) own started zq31 Try.func4
  (ChangeSpec.witness6 (enc := enc) (C := Try.checked) false ⟨#[], #[.agg #[.int .i64 0, .slice none 0 0, .slice none 0 0], .slice none 0 0, .int .i64 0], []⟩ 8 zq31 zq31 zq31 zq31) ?_
 intro W base args ds gs before hval0 hW hcnd hsz0 _
 have hval : ∀ (j : Nat) t v, Try.f4.params[j]? = some t → args[j]? = some v → Value.okWide Try.prog W .any base t v := hval0
 have hW' := hW
 obtain ⟨p, q, hA0, hV, rfl, hfz, hnd⟩ := hW
 have hA : DataW.TrodAll enc Try.prog W 0 (fun _ => true) true Try.f4.params.toList args.toList ds p := hA0
 rw [Try.params4] at hA hval
 obtain ⟨v0, vs0, d0, ds0, p0, q0, hargs, rfl, rfl, h0, r0⟩ := trodAll_cons hA
 obtain ⟨v1, vs1, d1, ds1, p1, q1, rfl, rfl, rfl, h1, r1⟩ := trodAll_cons r0
 obtain ⟨v2, vs2, d2, ds2, p2, q2, rfl, rfl, rfl, h2, r2⟩ := trodAll_cons r1
 obtain ⟨rfl, rfl, rfl⟩ := trodAll_nil r2
 obtain rfl : args = #[v0, v1, v2] := by cases args; simp_all
 obtain ⟨rfl, rfl⟩ := trodVars_none hV
 have k0 := h0
 have lt0 : ∀ x ∈ p0, x.block < W.heap.size := by obtain ⟨m, hm⟩ := k0; exact DataW.trod_lt m _ _ _ hm
 obtain ⟨a0, A0_1, c0_1, l0_1, A0_2, c0_2, l0_2, rfl, w0, hc0_1, hC0_1, hc0_2, hC0_2⟩ := open_checker h0
 have k1 := h1
 have lt1 : ∀ x ∈ p1, x.block < W.heap.size := by obtain ⟨m, hm⟩ := k1; exact DataW.trod_lt m _ _ _ hm
 obtain ⟨b1, len1, cap1, e1⟩ := okWide_slice Try.underlying26 (hval 1 26 v1 rfl rfl)
 obtain ⟨A1, c1, l1, rfl, hc1, hC1⟩ := open_runs h1 (fun a e => by rw [e] at e1; cases e1)
 obtain ⟨a2, rfl, rfl, rfl, w2⟩ := open_int Try.underlying3 (hval 2 3 v2 rfl rfl) h2
 clear hA0 hval0 hsz0
 refine (culletlaw07_InspectExactly.calls 3000 a0 A0_1 c0_1 l0_1 A0_2 c0_2 l0_2 A1 c1 l1 a2 true W hC0_1 hc0_1 hC0_2 hc0_2 hC1 hc1 (exactly_pure a0 l0_1 l0_2 l1 a2)).mono fun e W' ⟨he, bel⟩ => ?_
 subst he
 exact ⟨_, rfl, _, _, _, [], _, [], hW', trodAll_mk1 (shut_bool Try.underlying4 _), (trodAll_cons_mk (Below.trod laidOut zq31 (of_decide_eq_true zq31) k0 bel lt0) (trodAll_cons_mk (Below.trod laidOut zq31 (of_decide_eq_true zq31) k1 bel lt1) (trodAll_cons_mk (shut_int Try.underlying3 w2) trodAll_mk0))), rfl, bel.frame _, fun h => by cases h⟩
theorem over : Rows.inspectExactlyRow.holds Try.pinned (OpenSpec.ofChange Rows.inspectExactlySpec) :=
 OpenClaim.holds_of_wide 4 Try.f4 rfl rfl rfl rfl rfl rfl rfl ⟨rfl, rfl, rfl, rfl, rfl⟩ rfl rfl rfl rfl rfl zq31 Try.func4 zq31
  (of_decide_eq_true zq31) (by unfold Func.isWrapper; first | (rw [if_pos (by decide +kernel)]; kernel_rfl) | (rw [if_neg (by decide +kernel)]; exact ⟨rfl, rfl⟩))
  (fun os started H enc _ => lifted os started H enc)
theorem proved : Rows.InspectExactlySaid := over
end Go.Proofs.Ytbpebehbfpgjbaa.inspectExactly
namespace Go.Proofs.Ytbpebehbfpgjbaa
theorem inspectExactly_holds : Rows.InspectExactlySaid := inspectExactly.proved
end Go.Proofs.Ytbpebehbfpgjbaa
end
