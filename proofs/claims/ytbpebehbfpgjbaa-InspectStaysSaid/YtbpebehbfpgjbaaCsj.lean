/- InspectStays, as the seat states it: for every line of inspection, every log, any entries more and any numbers the statement's function returns true. No condition beyond the given row's own. -/
import Derived.Test.YtbpebehbfpgjbaaRows
import Derived.WalkKit
import Derived.ProofKit
import Derived.OpenShut
import Derived.ShutString
import Derived.ChangeOld
import Derived.Below
import Derived.SizedLaws
import Derived.Test.YtbpebehbfpgjbaaCsb
import Derived.Test.YtbpebehbfpgjbaaCsc
import Derived.Test.YtbpebehbfpgjbaaCsg
import Derived.Test.YtbpebehbfpgjbaaCsh
import Derived.Test.YtbpebehbfpgjbaaCsi
section
namespace Go.Proofs.Ytbpebehbfpgjbaa.P
open Go.RowKit Go.Proofs.YtbpebehbfpgjbaaW.PrintWords Go.Proofs.YtbpebehbfpgjbaaW.PrintLast Go.Proofs.YtbpebehbfpgjbaaW.PrintMore
set_option linter.unusedVariables false
set_option linter.unusedSimpArgs false
theorem judgeS_val (every : Int) (fl : List S58) (st : List S56) (l : List S45) (e : Int) : (judgeS every fl st l e).1 = 0 ∨ (judgeS every fl st l e).1 = 1 ∨ (judgeS every fl st l e).1 = 2 ∨ (judgeS every fl st l e).1 = 3 := by
 unfold judgeS
 split
 ·exact .inr (.inl rfl)
 ·rcases judgeL_in every st l e fl 0 (2, -1) (.inl rfl) with h | h | h
  ·exact .inl h
  ·exact .inr (.inr (.inl h))
  ·exact .inr (.inr (.inr h))
theorem trustF_ok {every : Int} {fl : List S58} {st : List S56} {l : List S45} (h : logS every fl st l = 0) (s c e : Nat) (hs : s < st.length) (hc : c < fl.length) (he : e < l.length) (hk : (rd_T45 l (e : Int)).f1 = 1) : trustF every fl st l s c e = (trU every st l s c e, 0) := by
 have w : ∀ a b : Nat, a < b → ¬ win (a : Int) 0 ((b : Int) - 1) = false := fun a b hab => by unfold win; rw [decide_eq_true (show (0 : Int) ≤ a by omega), decide_eq_true (show (a : Int) ≤ (b : Int) - 1 by omega)]; decide
 unfold trustF
 rw [if_neg (fun x => x h), if_neg (w s _ hs), if_neg (w c _ hc), if_neg (w e _ he), if_neg (fun x => x hk)]
theorem stays_j5 {every : Int} {fl : List S58} {st : List S56} {l : List S45} (hl : logS every fl st l = 0) (e n : Nat) (he : e < l.length) (hn : n < l.length) (hk : (rd_T45 l (e : Int)).f1 = 1) (hkn : (rd_T45 l (n : Int)).f1 = 1) (hne : n ≠ e) (hlast : n ≠ l.length - 1) (k : Nat) (hk1 : 1 ≤ k) :
  culletlaw07_InspectStays.j5 k l (e : Int) (judgeS every fl st l e).1 (n : Int) false every fl st = some true := by
 obtain ⟨k, rfl⟩ : ∃ m, k = m + 1 := ⟨k - 1, zq16⟩
 have hlen := (logS_valid hl).len
 have g1 : (0 : Int) ≤ (n : Int) := by omega
 have g2 : (n : Int) ≤ (l.length : Int) := by omega
 have g3 : 0 + (l.take n).length < 2513169434916 := by rw [List.length_take]; omega
 have g4 : (0 : Int) ≤ ((n + 1 : Nat) : Int) := by omega
 have g5 : ((n + 1 : Nat) : Int) ≤ (l.length : Int) := by omega
 have g6 : (l.take n).length + (l.drop (n + 1)).length < 2513169434916 := by rw [List.length_take, List.length_drop]; omega
 have hw : wrap64 ((n : Int) + 1) = ((n + 1 : Nat) : Int) := wsucc n zq16
 have hw2 : (n : Int) < e → wrap64 ((e : Int) - 1) = ((e - 1 : Nat) : Int) ∧ phi n (e - 1) = e := fun h => ⟨by unfold wrap64; omega, by unfold phi; rw [if_neg zq16]; omega⟩
 have hw3 : ¬ (n : Int) < e → phi n e = e := fun h => by unfold phi; rw [if_pos zq16]
 have hal : ∀ a : Nat, phi n a = e → a < l.length - 1 := fun a ha => by unfold phi at ha; split at ha <;> omega
 have hll := less_len l n hn
 have hal2 : ∀ a : Nat, phi n a = e → a < (l.take n ++ l.drop (n + 1)).length := fun a ha => by rw [hll]; exact hal a ha
 have hlog := less_log hl hn
 have hfin : ∀ a : Nat, phi n a = e → judgeF every fl st (l.take n ++ l.drop (n + 1)) a = ((judgeS every fl st l e).1, (judgeS every fl st l e).2, 0) := fun a ha => by
  rw [judgeF_ok hlog a (hal2 a ha) (by rw [rd45, getD_less l n hn, ha]; exact hk), less_judge hn hkn hlast a, ha]
 rw [culletlaw07_InspectStays.j5, if_neg zq49]
 simp only [Option.bind_some, hw, Int.toNat_natCast, List.nil_append, List.length_nil]
 rw [if_pos g1, if_pos g2, if_pos g3, if_pos g4, if_pos g5, if_pos g6]
 unfold inspect_Judge.f
 by_cases hlt : (n : Int) < e
 ·rw [if_pos hlt, (hw2 hlt).1, hfin (e - 1) (hw2 hlt).2]
  simp only [Option.bind_some, if_true]
  rfl
 ·rw [if_neg hlt, hfin e (hw3 hlt)]
  simp only [Option.bind_some, if_true]
  rfl
section
variable {every : Int} {fl : List S58} {st : List S56} {l m : List S45}
theorem stays_l1 (hl : logS every fl st l = 0) (hm : logS every fl st (l ++ m) = 0) (e : Nat) (he : e < l.length) (hk : (rd_T45 l (e : Int)).f1 = 1) (x4 v : Int) (s : Nat) (hs : s < st.length) (R : Option Bool) (K : Nat)
  (hR : ∀ k, K ≤ k → culletlaw07_InspectStays.l0 k l (e : Int) x4 (l ++ m) v (wrap64 ((s : Int) + 1)) every fl st = R) :
  ∀ r c k, c + r = fl.length → r + K < k → culletlaw07_InspectStays.l1 k l (e : Int) x4 (l ++ m) v (s : Int) (c : Int) every fl st = R
 | 0, c, k, h, hk2 => by
  obtain ⟨k, rfl⟩ : ∃ m, k = m + 1 := ⟨k - 1, zq16⟩
  rw [culletlaw07_InspectStays.l1, if_neg zq16]
  exact hR k zq16
 | r + 1, c, k, h, hk2 => by
  obtain ⟨k, rfl⟩ : ∃ m, k = m + 1 := ⟨k - 1, zq16⟩
  have ih := stays_l1 hl hm e he hk x4 v s hs R K hR r (c + 1) k zq16 zq16
  have hn1 := (logS_valid hl).n1
  have hk' : (rd_T45 (l ++ m) (e : Int)).f1 = 1 := by rw [rd45, getD_app l m e he]; exact hk
  rw [← wsucc c zq16] at ih
  rw [culletlaw07_InspectStays.l1, if_pos zq16]
  unfold inspect_Trusted.f
  rw [trustF_ok hl s c e hs zq16 he hk, trustF_ok hm s c e hs zq16 (by rw [List.length_append]; omega) hk']
  simp only [Option.bind_some, if_true]
  by_cases h0 : trU every st l s c e = 0
  ·rw [if_pos h0]
   exact ih
  ·rw [if_neg h0, if_pos (trU_app (logS_valid hm) s c e he h0).symm]
   exact ih
theorem stays_l0 (hl : logS every fl st l = 0) (hm : logS every fl st (l ++ m) = 0) (hl40 : l.length ≤ 40) (e : Nat) (he : e < l.length) (hk : (rd_T45 l (e : Int)).f1 = 1) (x4 : Int) :
  ∀ r s k, s + r = st.length → 20 * r + 20 < k → culletlaw07_InspectStays.l0 k l (e : Int) x4 (l ++ m) (judgeS every fl st l e).1 (s : Int) every fl st = some true
 | 0, s, k, h, hk2 => by
  obtain ⟨k, rfl⟩ : ∃ m, k = m + 1 := ⟨k - 1, zq16⟩
  obtain ⟨n, hn, hp⟩ := picked_some x4 l.length zq16 zq16
  obtain ⟨k, rfl⟩ : ∃ m, k = m + 1 := ⟨k - 1, zq16⟩
  have ht : culletlaw07_InspectStays.j5 (k + 1) l (e : Int) (judgeS every fl st l e).1 (n : Int) true every fl st = some true := by
   rw [culletlaw07_InspectStays.j5, if_pos rfl]; rfl
  rw [culletlaw07_InspectStays.l0, if_neg zq16, hp, Option.bind_some, if_pos zq16, if_pos zq16]
  by_cases h1 : (rd_T45 l (n : Int)).f1 = 1
  ·rw [if_pos h1]
   by_cases h2 : (n : Int) = e
   ·rw [if_pos h2, ht]
   ·rw [if_neg h2, wpred l.length zq16]
    by_cases h3 : (n : Int) = (l.length : Int) - 1
    ·rw [show ((n : Int) == (l.length : Int) - 1) = true from by simpa using h3, ht]
    ·rw [show ((n : Int) == (l.length : Int) - 1) = false from by simpa using h3]
     exact stays_j5 hl e n he hn hk h1 zq16 zq16 (k + 1) zq16
  ·rw [if_neg h1, ht]
 | r + 1, s, k, h, hk2 => by
  obtain ⟨k, rfl⟩ : ∃ m, k = m + 1 := ⟨k - 1, zq16⟩
  have hv := logS_valid hl
  have hn1 := hv.n1
  have hn2 := hv.n2
  rw [culletlaw07_InspectStays.l0, if_pos zq16]
  refine stays_l1 hl hm e he hk x4 _ s zq16 (some true) (20 * r + 21) (fun k' hk' => ?_) fl.length 0 k zq16 zq16
  rw [wsucc s zq16]
  exact stays_l0 hl hm hl40 e he hk x4 r (s + 1) k' zq16 zq16
theorem stays_j1 (hl : logS every fl st l = 0) (hm : logS every fl st (l ++ m) = 0) (hl40 : l.length ≤ 40) (x3 x4 : Int) (k : Nat) (hk : 500 ≤ k) : culletlaw07_InspectStays.j1 k l x3 x4 (l ++ m) false every fl st = some true := by
 obtain ⟨k, rfl⟩ : ∃ m, k = m + 1 + 1 := ⟨k - 2, zq16⟩
 rw [culletlaw07_InspectStays.j1, if_neg zq49]
 unfold inspect_Judge.f
 by_cases hok : win x3 0 ((l.length : Int) - 1) = false
 ·have : judgeF every fl st l x3 = (0, 0, 7) := by unfold judgeF; rw [if_neg (fun x => x hl), if_pos hok]
  rw [this]
  rfl
 ·have hw := win_true (by simpa using hok)
  by_cases hkd : (rd_T45 l x3).f1 = 1
  ·obtain ⟨e, rfl⟩ : ∃ e : Nat, x3 = e := ⟨x3.toNat, zq16⟩
   have he : e < l.length := by omega
   have hk' : (rd_T45 (l ++ m) (e : Int)).f1 = 1 := by rw [rd45, getD_app l m e he]; exact hkd
   rw [judgeF_ok hl e he hkd, judgeF_ok hm e (by rw [List.length_append]; omega) hk']
   obtain ⟨s2, s1, s3, s0⟩ := stays_verdict (logS_valid hm) e he
   have hfin : culletlaw07_InspectStays.j2 (k + 1) l (e : Int) x4 (l ++ m) (judgeS every fl st l e).1 false every fl st = some true := by
    have hn2 := (logS_valid hl).n2
    rw [culletlaw07_InspectStays.j2, if_neg zq49]
    exact stays_l0 hl hm hl40 e he hkd x4 st.length 0 k zq16 zq16
   generalize (judgeS every fl st (l ++ m) e).1 = b at *
   rcases judgeS_val every fl st l e with hv | hv | hv | hv
   ·have hb : (b == 1) = false := by simpa using s0 hv
    rw [hv] at hfin ⊢
    simp only [Option.bind_some, if_true, Int.reduceEq, if_false, hb]
    exact hfin
   ·have hb := s1 hv
    subst hb
    rw [hv] at hfin ⊢
    simp only [Option.bind_some, if_true, Int.reduceEq, if_false]
    exact hfin
   ·have hb := s2 hv
    subst hb
    rw [hv] at hfin ⊢
    simp only [Option.bind_some, if_true, Int.reduceEq, if_false]
    exact hfin
   ·have hb := s3 hv
    subst hb
    rw [hv] at hfin ⊢
    simp only [Option.bind_some, if_true, Int.reduceEq, if_false]
    exact hfin
  ·have : judgeF every fl st l x3 = (0, 0, 1) := by unfold judgeF; rw [if_neg (fun x => x hl), if_neg hok, if_pos hkd]
   rw [this]
   rfl
end
theorem stays_pure (a0 : Int) (fl : List S58) (st : List S56) (l m : List S45) (a3 a4 : Int) : culletlaw07_InspectStays.f 3000 a0 fl st l m a3 a4 = some true := by
 have ht : culletlaw07_InspectStays.j0 3000 l m a3 a4 true a0 fl st = some true := by rw [culletlaw07_InspectStays.j0, if_pos rfl]; rfl
 have ht1 : ∀ A, culletlaw07_InspectStays.j1 2999 l a3 a4 A true a0 fl st = some true := fun A => by rw [culletlaw07_InspectStays.j1, if_pos rfl]; rfl
 obtain ⟨b, hb, _⟩ := many_some a0 fl st l 3000 zq16
 obtain ⟨b2, hb2, _⟩ := many_some a0 fl st m 3000 zq16
 unfold culletlaw07_InspectStays.f
 rw [hb, Option.bind_some]
 cases b
 ·rw [if_neg zq49, hb2, Option.bind_some]
  cases b2
  ·rw [if_neg zq49]
   by_cases h1 : (l.length : Int) > 40
   ·rw [if_pos h1, ht]
   ·rw [if_neg h1]
    by_cases h2 : (m.length : Int) > 40
    ·rw [decide_eq_true h2, ht]
    ·rw [decide_eq_false h2, culletlaw07_InspectStays.j0, if_neg zq49]
     simp only [Option.bind_some, List.nil_append, List.length_nil]
     rw [if_pos zq16, if_pos zq16, CheckLog_eq a0 fl st l 2999 zq16, CheckLog_eq a0 fl st (l ++ m) 2999 zq16]
     simp only [Option.bind_some]
     by_cases hl : logS a0 fl st l = 0
     ·rw [if_pos hl]
      by_cases hm : logS a0 fl st (l ++ m) = 0
      ·rw [hm, show ((0 : Int) != 0) = false from rfl]
       exact stays_j1 hl hm zq16 a3 a4 2999 zq16
      ·rw [show (logS a0 fl st (l ++ m) != 0) = true from by simpa using hm, ht1]
     ·rw [if_neg hl, ht1]
  ·rw [if_pos rfl, ht]
 ·rw [if_pos rfl, ht]
end Go.Proofs.Ytbpebehbfpgjbaa.P
end
section
namespace Go.Proofs.Ytbpebehbfpgjbaa.inspectStays
open Go.ChangeShapes Go.WideShapes Go.ChangeAt Go.RowKit Go.Proofs.Ytbpebehbfpgjbaa.P
set_option linter.unusedVariables false
theorem own : ownKnob Try.prog.godebug = none := by kernel_rfl
theorem laidOut : laidOutB Try.prog = true := by kernel_rfl
set_option maxRecDepth 100000 in
theorem lifted (os : Os) (started : os.Started) (H : Type) (enc : TypeId × Value → H) :
  ReturnsInHanded {} Try.checked os 8 .any (Rows.inspectStaysSpec.pre6 enc Try.prog Try.f8 Rows.inspectStaysRow.domain false) (Rows.inspectStaysSpec.post enc Try.prog Try.f8 false true false false) := by
 refine returnsInHanded_of_change_sized (C := Try.checked) own started zq23 Try.func8
  (ChangeSpec.witness6 (enc := enc) (C := Try.checked) false ⟨#[], #[.agg #[.int .i64 0, .slice none 0 0, .slice none 0 0], .slice none 0 0, .slice none 0 0, .int .i64 0, .int .i64 0], []⟩ 8 zq23 zq23 zq23 zq23) ?_
 intro W base args ds gs before hval0 hW hcnd hsz0 _
 have hval : ∀ (j : Nat) t v, Try.f8.params[j]? = some t → args[j]? = some v → Value.okWide Try.prog W .any base t v := hval0
 have hW' := hW
 obtain ⟨p, q, hA0, hV, rfl, hfz, hnd⟩ := hW
 have hA : DataW.TrodAll enc Try.prog W 0 (fun _ => true) true Try.f8.params.toList args.toList ds p := hA0
 rw [Try.params8] at hA hval
 obtain ⟨v0, vs0, d0, ds0, p0, q0, hargs, rfl, rfl, h0, r0⟩ := trodAll_cons hA
 obtain ⟨v1, vs1, d1, ds1, p1, q1, rfl, rfl, rfl, h1, r1⟩ := trodAll_cons r0
 obtain ⟨v2, vs2, d2, ds2, p2, q2, rfl, rfl, rfl, h2, r2⟩ := trodAll_cons r1
 obtain ⟨v3, vs3, d3, ds3, p3, q3, rfl, rfl, rfl, h3, r3⟩ := trodAll_cons r2
 obtain ⟨v4, vs4, d4, ds4, p4, q4, rfl, rfl, rfl, h4, r4⟩ := trodAll_cons r3
 obtain ⟨rfl, rfl, rfl⟩ := trodAll_nil r4
 obtain rfl : args = #[v0, v1, v2, v3, v4] := by cases args; simp_all
 obtain ⟨rfl, rfl⟩ := trodVars_none hV
 have k0 := h0
 have lt0 : ∀ x ∈ p0, x.block < W.heap.size := by obtain ⟨m, hm⟩ := k0; exact DataW.trod_lt m _ _ _ hm
 obtain ⟨a0, A0_1, c0_1, l0_1, A0_2, c0_2, l0_2, rfl, w0, hc0_1, hC0_1, hc0_2, hC0_2⟩ := open_checker h0
 have k1 := h1
 have lt1 : ∀ x ∈ p1, x.block < W.heap.size := by obtain ⟨m, hm⟩ := k1; exact DataW.trod_lt m _ _ _ hm
 obtain ⟨b1, len1, cap1, e1⟩ := okWide_slice Try.underlying26 (hval 1 26 v1 rfl rfl)
 obtain ⟨A1, c1, l1, rfl, hc1, hC1⟩ := open_runs h1 (fun a e => by rw [e] at e1; cases e1)
 have k2 := h2
 have lt2 : ∀ x ∈ p2, x.block < W.heap.size := by obtain ⟨m, hm⟩ := k2; exact DataW.trod_lt m _ _ _ hm
 obtain ⟨b2, len2, cap2, e2⟩ := okWide_slice Try.underlying26 (hval 2 26 v2 rfl rfl)
 obtain ⟨A2, c2, l2, rfl, hc2, hC2⟩ := open_runs h2 (fun a e => by rw [e] at e2; cases e2)
 obtain ⟨a3, rfl, rfl, rfl, w3⟩ := open_int Try.underlying3 (hval 3 3 v3 rfl rfl) h3
 obtain ⟨a4, rfl, rfl, rfl, w4⟩ := open_int Try.underlying3 (hval 4 3 v4 rfl rfl) h4
 clear hA0 hval0 hsz0
 refine (culletlaw07_InspectStays.calls 3000 a0 A0_1 c0_1 l0_1 A0_2 c0_2 l0_2 A1 c1 l1 A2 c2 l2 a3 a4 true W hC0_1 hc0_1 hC0_2 hc0_2 hC1 hc1 hC2 hc2 (stays_pure a0 l0_1 l0_2 l1 l2 a3 a4)).mono fun e W' ⟨he, bel⟩ => ?_
 subst he
 exact ⟨_, rfl, _, _, _, [], _, [], hW', trodAll_mk1 (shut_bool Try.underlying4 _), (trodAll_cons_mk (Below.trod laidOut zq23 (of_decide_eq_true zq23) k0 bel lt0) (trodAll_cons_mk (Below.trod laidOut zq23 (of_decide_eq_true zq23) k1 bel lt1) (trodAll_cons_mk (Below.trod laidOut zq23 (of_decide_eq_true zq23) k2 bel lt2) (trodAll_cons_mk (shut_int Try.underlying3 w3) (trodAll_cons_mk (shut_int Try.underlying3 w4) trodAll_mk0))))), rfl, bel.frame _, fun h => by cases h⟩
theorem over : Rows.inspectStaysRow.holds Try.pinned (OpenSpec.ofChange Rows.inspectStaysSpec) :=
 OpenClaim.holds_of_wide 8 Try.f8 rfl rfl rfl rfl rfl rfl rfl ⟨rfl, rfl, rfl, rfl, rfl⟩ rfl rfl rfl rfl rfl zq23 Try.func8 zq23
  (of_decide_eq_true zq23) (by unfold Func.isWrapper; first | (rw [if_pos (by decide +kernel)]; kernel_rfl) | (rw [if_neg (by decide +kernel)]; exact ⟨rfl, rfl⟩))
  (fun os started H enc _ => lifted os started H enc)
theorem proved : Rows.InspectStaysSaid := over
end Go.Proofs.Ytbpebehbfpgjbaa.inspectStays
namespace Go.Proofs.Ytbpebehbfpgjbaa
theorem inspectStays_holds : Rows.InspectStaysSaid := inspectStays.proved
end Go.Proofs.Ytbpebehbfpgjbaa
end
