/- Texts of the proof, joined: what they prove stands at each theorem. -/
import Derived.Outline
import Derived.IntWalk
import Derived.Deep.QuietTactic
import Derived.BigQuiet
import Derived.Test.YtbpebehbfpgjbaaClb
import Derived.Test.YtbpebehbfpgjbaaClc
import Derived.Test.YtbpebehbfpgjbaaCle
section
namespace Go.Proofs.Ytbpebehbfpgjbaa.P
open Go.RowKit Go.Proofs.YtbpebehbfpgjbaaW.PrintWords Go.Proofs.YtbpebehbfpgjbaaW.PrintLast Go.Proofs.YtbpebehbfpgjbaaW.PrintMore
set_option linter.unusedVariables false
set_option linter.unusedSimpArgs false
open Go.Maps (Keyed)
open GM
theorem chP_mem (l : List S45) (s k : Int) : ∀ n, ∀ x ∈ chP l s k n, 0 ≤ x ∧ x < n
 | 0, x, h => by simp [chP] at h
 | n + 1, x, h => by
  unfold chP at h
  split at h
  ·rcases List.mem_append.1 h with h | h
   ·have := chP_mem l s k n x h; omega
   ·simp at h; omega
  ·have := chP_mem l s k n x h; omega
theorem chP_sorted (l : List S45) (s k : Int) : ∀ n, (chP l s k n).Pairwise (· ≤ ·)
 | 0 => by simp [chP]
 | n + 1 => by
  unfold chP
  split
  ·refine List.pairwise_append.2 ⟨chP_sorted l s k n, zq51, fun a ha b hb => ?_⟩
   simp at hb
   have := chP_mem l s k n a ha
   omega
  ·exact chP_sorted l s k n
def DeskIs (W : World) (b : Nat) (l : List S45) : Prop := ∃ base, Groups Try.prog 84 3 .i64 W base b (fK l l.length)
theorem DeskIs.below {W W' : World} {b : Nat} {l : List S45} (h : DeskIs W b l) (hb : Below W.heap.size W W') : DeskIs W' b l := by
 obtain ⟨base, h⟩ := h
 exact ⟨base, h.below hb⟩
theorem search_own {W : World} {base : Nat} {A : Option Addr} {c : Nat} {L : List Int} (h : W.ownsRow base 3 1 (.slice A L.length c) L.length (nums .i64 L)) (W' : World) (hW : ∀ ad, A = some ad → W'.heap[ad.block]? = W.heap[ad.block]?) (hsz : L.length ≤ 512) (hs : L.Pairwise (· ≤ ·)) (x : Int) :
  Calls Try.prog 79 #[.slice A L.length c, .int .i64 x] W' fun e w' => e = .returned (.tuple #[.int .i64 (L.countP (· < x) : Nat), .bool (L.contains x)]) ∧ ∃ q, w' = W'.drewN q := by
 rcases h.2 with ⟨h1, h2⟩ | ⟨g, cap, cur, h1, r⟩
 ·have h0 : L = [] := by simpa using h2
  subst h0
  exact (Try.slices_BinarySearch_int_empty A c x W').mono (by rintro e w' ⟨rfl, rfl⟩; exact ⟨zq51, 0, rfl⟩)
 ·simp only [Value.slice.injEq] at h1
  obtain ⟨rfl, _, rfl⟩ := h1
  have hc : ∀ j, j < L.length → W'.cell? ⟨g, 0 + j, none⟩ = some (.int .i64 (L.getD j 0)) := fun j hj => by
   have h3 := (own_at h (j : Int) zq18 zq18).1
   simp only [Int.toNat_natCast] at h3
   rw [Nat.zero_add]
   refine Eq.trans ?_ (h3.trans ?_)
   ·show W'.cell? ⟨g, j, none⟩ = _
    have := hW ⟨g, 0, none⟩ rfl
    simp only at this
    simp only [World.cell?, this]
   ·simp [rd]
  have h4 := Try.slices_BinarySearch_int g 0 L.length c L x W' (Nat.le_refl _) zq18 hc (by rw [List.take_length]; exact hs)
  rw [List.take_length] at h4
  exact h4
set_option maxHeartbeats 4000000 in
set_option maxRecDepth 100000 in
theorem inspect_neighbours.calls (a0_0 : Int) (A0_1 : Option Addr) (c0_1 : Nat) (l0_1 : List S58) (A0_2 : Option Addr) (c0_2 : Nat) (l0_2 : List S56) (A1 : Option Addr) (c1 : Nat) (l1 : List S45) (b : Nat) (s k entry : Int) (w : World)
  (hd : DeskIs w b l1) (hlen : l1.length ≤ 512) (hs : (Lit.int .i64 s).wf = true) (hk : (Lit.int .i64 k).wf = true) :
  Calls Try.prog 62 #[.agg #[.int .i64 a0_0, .slice A0_1 l0_1.length c0_1, .slice A0_2 l0_2.length c0_2, .slice A1 l1.length c1, .map (some b)], .agg #[.int .i64 s, .int .i64 k], .int .i64 entry] w fun e w' =>
   ∃ ga gs gl A c, e = .returned (.func (.func 80) #[] #[.pointer (some ⟨ga, 0, none⟩), .pointer (some ⟨gs, 0, none⟩), .pointer (some ⟨gl, 0, none⟩)]) ∧
    w'.heap[ga]? = some (.cells #[.int .i64 ((chP l1 s k l1.length).countP (· < entry) : Nat)] 3 (0, 0)) ∧ w'.heap[gs]? = some (.cells #[.int .i64 (-1)] 3 (0, 0)) ∧ w'.heap[gl]? = some (.cells #[.slice A (chP l1 s k l1.length).length c] 29 (0, 0)) ∧
    (∀ W, Below w.heap.size w W → Kd.C (Kd.int .i64) W A (chP l1 s k l1.length).length (chP l1 s k l1.length)) ∧ gs ≠ gl ∧ gs ≠ ga ∧ (∀ ad, A = some ad → ad.block < w.heap.size) ∧ w.heap.size ≤ gs ∧ Below w.heap.size w w' := by
 obtain ⟨kl, hkey⟩ := key84 s k hs hk
 obtain ⟨base, hG⟩ := hd
 obtain ⟨v, hlook, hown⟩ := hG.lookup keyed84 Try.underlying75 zero29 hkey
 have hbl := hG.lt
 rw [fK_at] at hown
 generalize hL : chP l1 s k l1.length = L at hown ⊢
 have hsz : L.length ≤ 512 := by rw [← hL]; have := chP_len l1 s k l1.length; omega
 have hsort : L.Pairwise (· ≤ ·) := by rw [← hL]; exact chP_sorted l1 s k l1.length
 clear hL hG hkey
 obtain ⟨A, c, rfl, hRd⟩ := own_reads hown
 have HOWN := Aside0.mk hown
 have hlk : (Instr.lookup 75 (.map (some b)) (.agg #[.int .i64 s, .int .i64 k]) false).run Try.prog ((w.alloc (.cells #[.int .i64 a0_0, .slice A0_1 l0_1.length c0_1, .slice A0_2 l0_2.length c0_2, .slice A1 l1.length c1, .map (some b)] 77)).alloc (.cells #[.int .i64 s, .int .i64 k] 84)) = .ok (.slice A L.length c) ((w.alloc (.cells #[.int .i64 a0_0, .slice A0_1 l0_1.length c0_1, .slice A0_2 l0_2.length c0_2, .slice A1 l1.length c1, .map (some b)] 77)).alloc (.cells #[.int .i64 s, .int .i64 k] 84)) :=
  hlook _ ((blk_alloc' (by simp; omega) _).trans (blk_alloc' hbl _))
 clear hown hlook
 have HRD := Aside0.mk hRd
 have HSZ := Aside0.mk hsz
 have HSO := Aside0.mk hsort
 clear hRd hsz hsort
 have HBL := Aside0.mk hbl
 clear hbl
 have hcall := fun (W' : World) (hW : ∀ j, j < w.heap.size → W'.heap[j]? = w.heap[j]?) => search_own HOWN.out W' (fun ad e => by subst e; exact hW _ (own_lt HOWN.out ad.block rfl)) HSZ.out HSO.out entry
 go_enter Try.func62, Try.ntmps62
 go_wp2_with (go_at_call 79; (with_reducible refine (hcall _ (fun j hj => ?hw)).mono ?_); (case hw => exact (((blk_alloc' zq36 _).trans (blk_alloc' zq36 _)).trans (blk_alloc' hj _))); rintro e w' ⟨rfl, ⟨nd, rfl⟩⟩)
 have hb5 := ((pw_below_drewN (((Below.refl w.heap.size w).alloc (Nat.le_refl _) (.cells #[.int .i64 a0_0, .slice A0_1 l0_1.length c0_1, .slice A0_2 l0_2.length c0_2, .slice A1 l1.length c1, .map (some b)] 77)).alloc zq36 (.cells #[.int .i64 s, .int .i64 k] 84) |>.alloc zq36 (.cells #[.slice A L.length c] 29)) nd).alloc (by simp only [World.heap_drewN, World.size_alloc]; omega) (.cells #[.int .i64 (L.countP (· < entry) : Nat)] 3)).alloc (by simp only [World.heap_drewN, World.size_alloc]; omega) (.cells #[.int .i64 (-1)] 3)
 have hC : ∀ W, Below w.heap.size w W → Kd.C (Kd.int .i64) W A L.length L := fun W hW => by
  have hn := own_move HOWN.out (fun j hj => hW.block j (own_lt HOWN.out j hj))
  obtain ⟨A', c', he, _, hC⟩ := Kd.R_reads (Kd.R_of_own (h1 := fun _ => rfl) (ok := fun _ => True) hn (fun _ _ => trivial))
  cases he
  exact hC
 go_ret
 refine ⟨_, _, _, A, c, rfl, ?_, ?_, ?_, hC, zq18, zq18, fun ad e => ?_, zq18, hb5⟩
 ·refine blk_alloc ?_ _
  have := blk_new (((((w.alloc (.cells #[.int .i64 a0_0, .slice A0_1 l0_1.length c0_1, .slice A0_2 l0_2.length c0_2, .slice A1 l1.length c1, .map (some b)] 77)).alloc (.cells #[.int .i64 s, .int .i64 k] 84)).alloc (.cells #[.slice A L.length c] 29))).drewN nd) (.cells #[.int .i64 (L.countP (· < entry) : Nat)] 3)
  simpa only [World.heap_drewN, World.size_alloc] using this
 ·have := blk_new ((((((w.alloc (.cells #[.int .i64 a0_0, .slice A0_1 l0_1.length c0_1, .slice A0_2 l0_2.length c0_2, .slice A1 l1.length c1, .map (some b)] 77)).alloc (.cells #[.int .i64 s, .int .i64 k] 84)).alloc (.cells #[.slice A L.length c] 29))).drewN nd).alloc (.cells #[.int .i64 (L.countP (· < entry) : Nat)] 3)) (.cells #[.int .i64 (-1)] 3)
  simpa only [World.heap_drewN, World.size_alloc] using this
 ·refine blk_alloc (blk_alloc (blk_drewN ?_ _) _) _
  have := blk_new ((w.alloc (.cells #[.int .i64 a0_0, .slice A0_1 l0_1.length c0_1, .slice A0_2 l0_2.length c0_2, .slice A1 l1.length c1, .map (some b)] 77)).alloc (.cells #[.int .i64 s, .int .i64 k] 84)) (.cells #[.slice A L.length c] 29)
  simpa only [World.size_alloc] using this
 ·subst e
  exact own_lt HOWN.out ad.block rfl
def trustP (every : Int) (l : List S45) (before behind : Int) : Int :=
 if before < 0 then 2 else if (rd_T45 l before).f6 = false then 2 else
 if behind < 0 then (if (rd_T45 l ((l.length : Int) - 1)).f0 - (rd_T45 l before).f0 > every then 2 else 0)
 else if (rd_T45 l behind).f6 = false then 2 else if (rd_T45 l behind).f0 - (rd_T45 l before).f0 > every then 2 else 1
def trustS (every : Int) (l : List S45) (chs : List Int) (cl : Bool) (entry : Int) : Int :=
 if cl = false then 2 else trustP every l (nxt chs ((chs.countP (· < entry) : Nat) + -1)) (nxt chs ((chs.countP (· < entry) : Nat) + 0))
set_option maxHeartbeats 4000000 in
set_option maxRecDepth 100000 in
theorem inspect_trusted.calls (a0_0 : Int) (A0_1 : Option Addr) (c0_1 : Nat) (l0_1 : List S58) (A0_2 : Option Addr) (c0_2 : Nat) (l0_2 : List S56) (A1 : Option Addr) (c1 : Nat) (l1 : List S45) (b : Nat) (s k entry : Int) (w : World) (r1 r2 r3 : Int) (cl : Bool)
  (hr0_1 : Kd.C k58 w A0_1 l0_1.length l0_1) (hc0_1 : l0_1.length ≤ c0_1) (hr0_2 : Kd.C k56 w A0_2 l0_2.length l0_2) (hc0_2 : l0_2.length ≤ c0_2)
  (hr1 : Kd.C k45 w A1 l1.length l1)
  (hd : DeskIs w b l1) (hlen : l1.length ≤ 512) (hs : (Lit.int .i64 s).wf = true) (hk : (Lit.int .i64 k).wf = true)
  (hcl : inspect_claim.f a0_0 l0_1 l0_2 s k = some (r1, r2, r3, cl)) (ht : ∀ n, 0 ≤ (l1.getD n z45).f0 ∧ (l1.getD n z45).f0 ≤ 1000000000) :
  Calls Try.prog 37 #[.agg #[.int .i64 a0_0, .slice A0_1 l0_1.length c0_1, .slice A0_2 l0_2.length c0_2, .slice A1 l1.length c1, .map (some b)], .agg #[.int .i64 s, .int .i64 k], .int .i64 entry] w fun e w' =>
   e = .returned (.int .u8 (trustS a0_0 l1 (chP l1 s k l1.length) cl entry)) ∧ Below w.heap.size w w' := by
 have hclm : ∀ W, Below w.heap.size w W → Calls Try.prog 38 #[.agg #[.int .i64 a0_0, .slice A0_1 l0_1.length c0_1, .slice A0_2 l0_2.length c0_2], .int .i64 s, .int .i64 k] W (fun e w' => e = .returned (.tuple #[.agg #[.int .i64 r1, .int .i64 r2, .int .i64 r3], .bool cl]) ∧ Below W.heap.size W w') :=
  fun W hW => inspect_claim.calls a0_0 A0_1 c0_1 l0_1 A0_2 c0_2 l0_2 s k r1 r2 r3 cl W (Kd.C_below hr0_1 hW) hc0_1 (Kd.C_below hr0_2 hW) hc0_2 hcl
 have hngh : ∀ W, Below w.heap.size w W → _ := fun W hW => inspect_neighbours.calls a0_0 A0_1 c0_1 l0_1 A0_2 c0_2 l0_2 A1 c1 l1 b s k entry W (hd.below hW) hlen hs hk
 have HR := Aside0.mk hr1
 have HL := Aside0.mk hlen
 have HT := Aside0.mk ht
 clear hr0_1 hr0_2 hr1 hcl hlen hs hk hd ht
 unfold trustS
 cases cl with
 | false =>
  rw [if_pos rfl]
  go_enter Try.func37, Try.ntmps37
  go_wp2_with (go_at_call 38; (with_reducible refine (hclm _ ?hw).mono ?_); (case hw => exact ((Below.refl _ _).alloc (Nat.le_refl _) _).alloc zq36 _); rintro e w1 ⟨rfl, hb1⟩; have HB1 := Aside0.mk hb1; clear hb1)
  go_ret
  exact ⟨rfl, (below_step (((Below.refl _ _).alloc (Nat.le_refl _) _).alloc zq36 _) HB1.out).alloc (below_step (((Below.refl _ _).alloc (Nat.le_refl _) _).alloc zq36 _) HB1.out).size _⟩
 | true =>
  rw [if_neg zq50]
  generalize hL : chP l1 s k l1.length = L at hngh ⊢
  have hsz : L.length ≤ 512 := by rw [← hL]; have := chP_len l1 s k l1.length; have := HL.out; omega
  have hmem : ∀ x ∈ L, 0 ≤ x ∧ x < l1.length := by rw [← hL]; exact chP_mem l1 s k l1.length
  have hb2 := ((Below.refl w.heap.size w).alloc (Nat.le_refl _) (.cells #[.int .i64 a0_0, .slice A0_1 l0_1.length c0_1, .slice A0_2 l0_2.length c0_2, .slice A1 l1.length c1, .map (some b)] 77)).alloc zq36 (.cells #[.int .i64 s, .int .i64 k] 84)
  have hD2 : ((w.alloc (.cells #[.int .i64 a0_0, .slice A0_1 l0_1.length c0_1, .slice A0_2 l0_2.length c0_2, .slice A1 l1.length c1, .map (some b)] 77)).alloc (.cells #[.int .i64 s, .int .i64 k] 84)).heap[w.heap.size]? = some (.cells #[.int .i64 a0_0, .slice A0_1 l0_1.length c0_1, .slice A0_2 l0_2.length c0_2, .slice A1 l1.length c1, .map (some b)] 77 (0, 0)) := blk_alloc (blk_new _ _) _
  have hE2 : ((w.alloc (.cells #[.int .i64 a0_0, .slice A0_1 l0_1.length c0_1, .slice A0_2 l0_2.length c0_2, .slice A1 l1.length c1, .map (some b)] 77)).alloc (.cells #[.int .i64 s, .int .i64 k] 84)).heap[w.heap.size + 1]? = some (.cells #[.int .i64 s, .int .i64 k] 84 (0, 0)) := by
   have := blk_new (w.alloc (.cells #[.int .i64 a0_0, .slice A0_1 l0_1.length c0_1, .slice A0_2 l0_2.length c0_2, .slice A1 l1.length c1, .map (some b)] 77)) (.cells #[.int .i64 s, .int .i64 k] 84)
   simpa only [World.size_alloc] using this
  have HB2 := Aside0.mk hb2
  have HD2 := Aside0.mk hD2
  have HE2 := Aside0.mk hE2
  have HSZ := Aside0.mk hsz
  have HMEM := Aside0.mk hmem
  clear hb2 hD2 hE2 hsz hmem hL
  have hnx : ∀ n, nxt L n < 0 ∨ 0 ≤ nxt L n ∧ nxt L n < l1.length := fun n => by
   unfold nxt
   split
   ·exact .inl zq50
   ·rename_i h
    have hm : rd L n ∈ L := by
     unfold rd
     have h1 : n.toNat < L.length := by omega
     simp [List.getD_eq_getElem?_getD, List.getElem?_eq_getElem h1]
    have := HMEM.out _ hm
    exact .inr this
  have hp := hnx (((L.countP (· < entry) : Nat) : Int) + -1)
  have hq := hnx (((L.countP (· < entry) : Nat) : Int) + 0)
  rw [Int.add_zero] at hq
  have hpe : ∃ p, nxt L (((L.countP (· < entry) : Nat) : Int) + -1) = p := ⟨_, rfl⟩
  have hqe : ∃ q, nxt L (((L.countP (· < entry) : Nat) : Int) + 0) = q := ⟨_, rfl⟩
  obtain ⟨p, hpe⟩ := hpe
  obtain ⟨q, hqe⟩ := hqe
  rw [hpe] at hp
  rw [show nxt L ((L.countP (· < entry) : Nat) : Int) = q from by rw [← hqe, Int.add_zero]] at hq
  rw [hpe, hqe]
  unfold trustP
  have HPE := Aside0.mk hpe
  have HQE := Aside0.mk hqe
  clear hpe hqe hnx
  have hel : ∀ n : Int, 0 ≤ n → n < l1.length → ∃ ad, A1 = some ad ∧ ∀ W, Below w.heap.size w W → _ := fun n h0 h1 => by
   obtain ⟨ad, e, hx0, hx1, hx2, hx3, hx4, hx5, hx6⟩ := at_T45 HR.out n h0 h1
   exact ⟨ad, e, fun W hW => And.intro ((hW.cell (World.block_lt_of_cell? w _ hx0)).trans hx0) ((hW.cell (World.block_lt_of_cell? w _ hx6)).trans hx6)⟩
  rcases hp with hp | ⟨hp, hp'⟩
  ·rw [if_pos hp]
   clear hq hel
   have u0 : decide (p < 0) = true := decide_eq_true hp
   clear hp
   (go_enter Try.func37, Try.ntmps37; go_wp2_with (first | (go_at_call 38; (with_reducible refine (hclm _ HB2.out).mono ?_); rintro e w1 ⟨rfl, hb1⟩; have HB1 := Aside0.mk (below_step HB2.out hb1); have HD1 := Aside0.mk (blk_below HD2.out hb1); have HE1 := Aside0.mk (blk_below HE2.out hb1); clear hb1; have hd0 : ∀ o, (w1.alloc o).cell? ⟨w.heap.size, 0, none⟩ = some (.int .i64 a0_0) := fun o => (blk_cell (blk_alloc HD1.out o) 0).trans rfl; have hd1 : ∀ o, (w1.alloc o).cell? ⟨w.heap.size, 1, none⟩ = some (.slice A0_1 l0_1.length c0_1) := fun o => (blk_cell (blk_alloc HD1.out o) 1).trans rfl; have hd2 : ∀ o, (w1.alloc o).cell? ⟨w.heap.size, 2, none⟩ = some (.slice A0_2 l0_2.length c0_2) := fun o => (blk_cell (blk_alloc HD1.out o) 2).trans rfl; have hd3 : ∀ o, (w1.alloc o).cell? ⟨w.heap.size, 3, none⟩ = some (.slice _ l1.length c1) := fun o => (blk_cell (blk_alloc HD1.out o) 3).trans rfl; have hd4 : ∀ o, (w1.alloc o).cell? ⟨w.heap.size, 4, none⟩ = some (.map (some b)) := fun o => (blk_cell (blk_alloc HD1.out o) 4).trans rfl; have he0 : ∀ o, (w1.alloc o).cell? ⟨w.heap.size + 1, 0, none⟩ = some (.int .i64 s) := fun o => (blk_cell (blk_alloc HE1.out o) 0).trans rfl; have he1 : ∀ o, (w1.alloc o).cell? ⟨w.heap.size + 1, 1, none⟩ = some (.int .i64 k) := fun o => (blk_cell (blk_alloc HE1.out o) 1).trans rfl) | (go_at_call 62; (with_reducible refine (hngh _ (HB1.out.alloc (HB1.out.size) _)).mono ?_); rintro e w3 ⟨ga, gs, gl, A, c, rfl, q1, q2, q3, q4, q5, q6, q7, q8, q9⟩; have HB3 := Aside0.mk (below_step (HB1.out.alloc (HB1.out.size) _) q9); have HD3 := Aside0.mk (blk_below (blk_alloc HD1.out _) q9); have HQ4 := Aside0.mk (fun W hW => q4 W hW); have hlt3 := HB1.out.size; simp only [World.size_alloc] at q8 q7; have HGS := Aside0.mk (show w.heap.size + 1 < gs from by have := blk_lt HE1.out; omega); have G1 := Aside0.mk q1; have G2 := Aside0.mk q2; have G3 := Aside0.mk q3; have G5 := Aside0.mk q5; have G6 := Aside0.mk q6; have HF := Aside0.mk (show ∀ ad, A = some ad → ad.block ≠ gs from fun ad e => by have := q7 ad e; omega); have HK := Aside0.mk (q4 _ q9); have HK2 := Aside0.mk (q4 _ (q9.setCell (p := ⟨gs, 0, none⟩) zq36 (.int .i64 (-1 + 1)))); clear q1 q2 q3 q4 q5 q6 q7 q8 q9 HQ4 hlt3; clear hd0 hd1 hd2 hd3 hd4 he0 he1) | (go_at_call 80; (with_reducible refine (clo80 ga gs gl _ (-1) A c L w3 G1.out G2.out G3.out HK.out G5.out G6.out HF.out zq18 zq24 zq18 zq18).mono ?_); rintro e w4 ⟨he, hw4⟩; rw [HPE.out] at he; subst he; have G1' := Aside0.mk ((congrArg (fun W : World => W.heap[ga]?) hw4).trans (blk_far G1.out (fun e => G6.out e.symm) _)); have G2' := Aside0.mk (show w4.heap[gs]? = some (.cells #[.int .i64 0] 3 (0, 0)) from by rw [hw4]; exact blk_put G2.out 0 _ rfl); have G3' := Aside0.mk ((congrArg (fun W : World => W.heap[gl]?) hw4).trans (blk_far G3.out (fun e => G5.out e.symm) _)); have HK' := Aside0.mk (show Kd.C (Kd.int .i64) w4 A L.length L from by rw [hw4]; exact HK2.out); have HB4 := Aside0.mk (show Below w.heap.size w w4 from by rw [hw4]; exact HB3.out.setCell (p := ⟨gs, 0, none⟩) zq25 _); have HD4 := Aside0.mk ((congrArg (fun W : World => W.heap[w.heap.size]?) hw4).trans (blk_far HD3.out zq25 _)); clear hw4) | (go_at_call 80; (with_reducible refine (clo80 ga gs gl _ 0 A c L w4 G1'.out G2'.out G3'.out HK'.out G5.out G6.out HF.out zq18 zq24 zq18 zq18).mono ?_); rintro e w5 ⟨he, hw5⟩; rw [HQE.out] at he; subst he; have HB5 := Aside0.mk (show Below w.heap.size w w5 from by rw [hw5]; exact HB4.out.setCell (p := ⟨gs, 0, none⟩) zq25 _); have HD5 := Aside0.mk ((congrArg (fun W : World => W.heap[w.heap.size]?) hw5).trans (blk_far HD4.out zq25 _)); clear hw5; (try have hx50 := HX0.out w5 HB5.out); (try have hx56 := HX6.out w5 HB5.out); (try have hy50 := HY0.out w5 HB5.out); (try have hy56 := HY6.out w5 HB5.out); (try have hz50 := HZ0.out w5 HB5.out); have hd0 : w5.cell? ⟨w.heap.size, 0, none⟩ = some (.int .i64 a0_0) := (blk_cell HD5.out 0).trans rfl; have hd3 : w5.cell? ⟨w.heap.size, 3, none⟩ = some (.slice _ l1.length c1) := (blk_cell HD5.out 3).trans rfl; clear HB2 HD2 HE2 HB3 HD3 G1 G2 G3 HK HK2 G1' G2' G3' HK' HB4 HD4 hngh hclm HB1 HD1 HE1)))
   go_ret
   exact ⟨rfl, by (first | exact HB5.out | exact pw_below_drewN HB5.out _)⟩
  ·rw [if_neg zq18]
   obtain ⟨ad, rfl, hx⟩ := hel p hp hp'
   have u0 : decide (p < 0) = false := decide_eq_false zq18
   have HX0 := Aside0.mk (fun W hW => (hx W hW).1)
   have HX6 := Aside0.mk (fun W hW => (hx W hW).2)
   have u1 := eq_true hp
   have u2 : decide (p < (l1.length : Int)) = true := decide_eq_true hp'
   clear hx
   by_cases hf : (rd_T45 l1 p).f6 = false
   ·rw [if_pos hf]
    rw [hf] at HX6
    clear hp hq hel
    (go_enter Try.func37, Try.ntmps37; go_wp2_with (first | (go_at_call 38; (with_reducible refine (hclm _ HB2.out).mono ?_); rintro e w1 ⟨rfl, hb1⟩; have HB1 := Aside0.mk (below_step HB2.out hb1); have HD1 := Aside0.mk (blk_below HD2.out hb1); have HE1 := Aside0.mk (blk_below HE2.out hb1); clear hb1; have hd0 : ∀ o, (w1.alloc o).cell? ⟨w.heap.size, 0, none⟩ = some (.int .i64 a0_0) := fun o => (blk_cell (blk_alloc HD1.out o) 0).trans rfl; have hd1 : ∀ o, (w1.alloc o).cell? ⟨w.heap.size, 1, none⟩ = some (.slice A0_1 l0_1.length c0_1) := fun o => (blk_cell (blk_alloc HD1.out o) 1).trans rfl; have hd2 : ∀ o, (w1.alloc o).cell? ⟨w.heap.size, 2, none⟩ = some (.slice A0_2 l0_2.length c0_2) := fun o => (blk_cell (blk_alloc HD1.out o) 2).trans rfl; have hd3 : ∀ o, (w1.alloc o).cell? ⟨w.heap.size, 3, none⟩ = some (.slice _ l1.length c1) := fun o => (blk_cell (blk_alloc HD1.out o) 3).trans rfl; have hd4 : ∀ o, (w1.alloc o).cell? ⟨w.heap.size, 4, none⟩ = some (.map (some b)) := fun o => (blk_cell (blk_alloc HD1.out o) 4).trans rfl; have he0 : ∀ o, (w1.alloc o).cell? ⟨w.heap.size + 1, 0, none⟩ = some (.int .i64 s) := fun o => (blk_cell (blk_alloc HE1.out o) 0).trans rfl; have he1 : ∀ o, (w1.alloc o).cell? ⟨w.heap.size + 1, 1, none⟩ = some (.int .i64 k) := fun o => (blk_cell (blk_alloc HE1.out o) 1).trans rfl) | (go_at_call 62; (with_reducible refine (hngh _ (HB1.out.alloc (HB1.out.size) _)).mono ?_); rintro e w3 ⟨ga, gs, gl, A, c, rfl, q1, q2, q3, q4, q5, q6, q7, q8, q9⟩; have HB3 := Aside0.mk (below_step (HB1.out.alloc (HB1.out.size) _) q9); have HD3 := Aside0.mk (blk_below (blk_alloc HD1.out _) q9); have HQ4 := Aside0.mk (fun W hW => q4 W hW); have hlt3 := HB1.out.size; simp only [World.size_alloc] at q8 q7; have HGS := Aside0.mk (show w.heap.size + 1 < gs from by have := blk_lt HE1.out; omega); have G1 := Aside0.mk q1; have G2 := Aside0.mk q2; have G3 := Aside0.mk q3; have G5 := Aside0.mk q5; have G6 := Aside0.mk q6; have HF := Aside0.mk (show ∀ ad, A = some ad → ad.block ≠ gs from fun ad e => by have := q7 ad e; omega); have HK := Aside0.mk (q4 _ q9); have HK2 := Aside0.mk (q4 _ (q9.setCell (p := ⟨gs, 0, none⟩) zq36 (.int .i64 (-1 + 1)))); clear q1 q2 q3 q4 q5 q6 q7 q8 q9 HQ4 hlt3; clear hd0 hd1 hd2 hd3 hd4 he0 he1) | (go_at_call 80; (with_reducible refine (clo80 ga gs gl _ (-1) A c L w3 G1.out G2.out G3.out HK.out G5.out G6.out HF.out zq18 zq24 zq18 zq18).mono ?_); rintro e w4 ⟨he, hw4⟩; rw [HPE.out] at he; subst he; have G1' := Aside0.mk ((congrArg (fun W : World => W.heap[ga]?) hw4).trans (blk_far G1.out (fun e => G6.out e.symm) _)); have G2' := Aside0.mk (show w4.heap[gs]? = some (.cells #[.int .i64 0] 3 (0, 0)) from by rw [hw4]; exact blk_put G2.out 0 _ rfl); have G3' := Aside0.mk ((congrArg (fun W : World => W.heap[gl]?) hw4).trans (blk_far G3.out (fun e => G5.out e.symm) _)); have HK' := Aside0.mk (show Kd.C (Kd.int .i64) w4 A L.length L from by rw [hw4]; exact HK2.out); have HB4 := Aside0.mk (show Below w.heap.size w w4 from by rw [hw4]; exact HB3.out.setCell (p := ⟨gs, 0, none⟩) zq25 _); have HD4 := Aside0.mk ((congrArg (fun W : World => W.heap[w.heap.size]?) hw4).trans (blk_far HD3.out zq25 _)); clear hw4) | (go_at_call 80; (with_reducible refine (clo80 ga gs gl _ 0 A c L w4 G1'.out G2'.out G3'.out HK'.out G5.out G6.out HF.out zq18 zq24 zq18 zq18).mono ?_); rintro e w5 ⟨he, hw5⟩; rw [HQE.out] at he; subst he; have HB5 := Aside0.mk (show Below w.heap.size w w5 from by rw [hw5]; exact HB4.out.setCell (p := ⟨gs, 0, none⟩) zq25 _); have HD5 := Aside0.mk ((congrArg (fun W : World => W.heap[w.heap.size]?) hw5).trans (blk_far HD4.out zq25 _)); clear hw5; (try have hx50 := HX0.out w5 HB5.out); (try have hx56 := HX6.out w5 HB5.out); (try have hy50 := HY0.out w5 HB5.out); (try have hy56 := HY6.out w5 HB5.out); (try have hz50 := HZ0.out w5 HB5.out); have hd0 : w5.cell? ⟨w.heap.size, 0, none⟩ = some (.int .i64 a0_0) := (blk_cell HD5.out 0).trans rfl; have hd3 : w5.cell? ⟨w.heap.size, 3, none⟩ = some (.slice _ l1.length c1) := (blk_cell HD5.out 3).trans rfl; clear HB2 HD2 HE2 HB3 HD3 G1 G2 G3 HK HK2 G1' G2' G3' HK' HB4 HD4 hngh hclm HB1 HD1 HE1)))
    go_ret
    exact ⟨rfl, by (first | exact HB5.out | exact pw_below_drewN HB5.out _)⟩
   ·rw [if_neg hf]
    replace hf : (rd_T45 l1 p).f6 = true := by simpa using hf
    rw [hf] at HX6
    have hm : ∃ m : Int, (l1.length : Int) - 1 = m := ⟨_, rfl⟩
    obtain ⟨m, hm⟩ := hm
    have hwr : wrap64 ((l1.length : Int) - 1) = m := by have := HL.out; rw [← hm]; unfold wrap64; omega
    obtain ⟨ad', e', hz⟩ := hel m zq18 zq18
    cases e'
    rw [hm]
    have HZ0 := Aside0.mk (fun W hW => (hz W hW).1)
    have u5 := eq_true (show 0 ≤ m by omega)
    have hm' : m < (l1.length : Int) := by omega
    have u6 : decide (m < (l1.length : Int)) = true := decide_eq_true zq18
    clear hz hm
    have htp : 0 ≤ (rd_T45 l1 p).f0 ∧ (rd_T45 l1 p).f0 ≤ 1000000000 := HT.out p.toNat
    have htm : 0 ≤ (rd_T45 l1 m).f0 ∧ (rd_T45 l1 m).f0 ≤ 1000000000 := HT.out m.toNat
    rcases hq with hq | ⟨hq, hq'⟩
    ·rw [if_pos hq]
     have u3 : decide (0 ≤ q) = false := decide_eq_false zq18
     generalize (rd_T45 l1 p).f0 = tp at HX0 htp ⊢
     generalize (rd_T45 l1 m).f0 = tm at HZ0 htm ⊢
     have hwt : wrap64 (tm - tp) = tm - tp := by unfold wrap64; omega
     have hwt2 : IntKind.i64.wrap (tm - tp) = tm - tp := Go.IntWalk.i64_in _ zq18
     clear htp htm
     clear hel hp hf hq
     by_cases ho : tm - tp > a0_0
     ·rw [if_pos ho]
      have u7 : decide (a0_0 < tm - tp) = true := decide_eq_true ho
      clear ho
      (go_enter Try.func37, Try.ntmps37; go_wp2_with (first | (go_at_call 38; (with_reducible refine (hclm _ HB2.out).mono ?_); rintro e w1 ⟨rfl, hb1⟩; have HB1 := Aside0.mk (below_step HB2.out hb1); have HD1 := Aside0.mk (blk_below HD2.out hb1); have HE1 := Aside0.mk (blk_below HE2.out hb1); clear hb1; have hd0 : ∀ o, (w1.alloc o).cell? ⟨w.heap.size, 0, none⟩ = some (.int .i64 a0_0) := fun o => (blk_cell (blk_alloc HD1.out o) 0).trans rfl; have hd1 : ∀ o, (w1.alloc o).cell? ⟨w.heap.size, 1, none⟩ = some (.slice A0_1 l0_1.length c0_1) := fun o => (blk_cell (blk_alloc HD1.out o) 1).trans rfl; have hd2 : ∀ o, (w1.alloc o).cell? ⟨w.heap.size, 2, none⟩ = some (.slice A0_2 l0_2.length c0_2) := fun o => (blk_cell (blk_alloc HD1.out o) 2).trans rfl; have hd3 : ∀ o, (w1.alloc o).cell? ⟨w.heap.size, 3, none⟩ = some (.slice _ l1.length c1) := fun o => (blk_cell (blk_alloc HD1.out o) 3).trans rfl; have hd4 : ∀ o, (w1.alloc o).cell? ⟨w.heap.size, 4, none⟩ = some (.map (some b)) := fun o => (blk_cell (blk_alloc HD1.out o) 4).trans rfl; have he0 : ∀ o, (w1.alloc o).cell? ⟨w.heap.size + 1, 0, none⟩ = some (.int .i64 s) := fun o => (blk_cell (blk_alloc HE1.out o) 0).trans rfl; have he1 : ∀ o, (w1.alloc o).cell? ⟨w.heap.size + 1, 1, none⟩ = some (.int .i64 k) := fun o => (blk_cell (blk_alloc HE1.out o) 1).trans rfl) | (go_at_call 62; (with_reducible refine (hngh _ (HB1.out.alloc (HB1.out.size) _)).mono ?_); rintro e w3 ⟨ga, gs, gl, A, c, rfl, q1, q2, q3, q4, q5, q6, q7, q8, q9⟩; have HB3 := Aside0.mk (below_step (HB1.out.alloc (HB1.out.size) _) q9); have HD3 := Aside0.mk (blk_below (blk_alloc HD1.out _) q9); have HQ4 := Aside0.mk (fun W hW => q4 W hW); have hlt3 := HB1.out.size; simp only [World.size_alloc] at q8 q7; have HGS := Aside0.mk (show w.heap.size + 1 < gs from by have := blk_lt HE1.out; omega); have G1 := Aside0.mk q1; have G2 := Aside0.mk q2; have G3 := Aside0.mk q3; have G5 := Aside0.mk q5; have G6 := Aside0.mk q6; have HF := Aside0.mk (show ∀ ad, A = some ad → ad.block ≠ gs from fun ad e => by have := q7 ad e; omega); have HK := Aside0.mk (q4 _ q9); have HK2 := Aside0.mk (q4 _ (q9.setCell (p := ⟨gs, 0, none⟩) zq36 (.int .i64 (-1 + 1)))); clear q1 q2 q3 q4 q5 q6 q7 q8 q9 HQ4 hlt3; clear hd0 hd1 hd2 hd3 hd4 he0 he1) | (go_at_call 80; (with_reducible refine (clo80 ga gs gl _ (-1) A c L w3 G1.out G2.out G3.out HK.out G5.out G6.out HF.out zq18 zq24 zq18 zq18).mono ?_); rintro e w4 ⟨he, hw4⟩; rw [HPE.out] at he; subst he; have G1' := Aside0.mk ((congrArg (fun W : World => W.heap[ga]?) hw4).trans (blk_far G1.out (fun e => G6.out e.symm) _)); have G2' := Aside0.mk (show w4.heap[gs]? = some (.cells #[.int .i64 0] 3 (0, 0)) from by rw [hw4]; exact blk_put G2.out 0 _ rfl); have G3' := Aside0.mk ((congrArg (fun W : World => W.heap[gl]?) hw4).trans (blk_far G3.out (fun e => G5.out e.symm) _)); have HK' := Aside0.mk (show Kd.C (Kd.int .i64) w4 A L.length L from by rw [hw4]; exact HK2.out); have HB4 := Aside0.mk (show Below w.heap.size w w4 from by rw [hw4]; exact HB3.out.setCell (p := ⟨gs, 0, none⟩) zq25 _); have HD4 := Aside0.mk ((congrArg (fun W : World => W.heap[w.heap.size]?) hw4).trans (blk_far HD3.out zq25 _)); clear hw4) | (go_at_call 80; (with_reducible refine (clo80 ga gs gl _ 0 A c L w4 G1'.out G2'.out G3'.out HK'.out G5.out G6.out HF.out zq18 zq24 zq18 zq18).mono ?_); rintro e w5 ⟨he, hw5⟩; rw [HQE.out] at he; subst he; have HB5 := Aside0.mk (show Below w.heap.size w w5 from by rw [hw5]; exact HB4.out.setCell (p := ⟨gs, 0, none⟩) zq25 _); have HD5 := Aside0.mk ((congrArg (fun W : World => W.heap[w.heap.size]?) hw5).trans (blk_far HD4.out zq25 _)); clear hw5; (try have hx50 := HX0.out w5 HB5.out); (try have hx56 := HX6.out w5 HB5.out); (try have hy50 := HY0.out w5 HB5.out); (try have hy56 := HY6.out w5 HB5.out); (try have hz50 := HZ0.out w5 HB5.out); have hd0 : w5.cell? ⟨w.heap.size, 0, none⟩ = some (.int .i64 a0_0) := (blk_cell HD5.out 0).trans rfl; have hd3 : w5.cell? ⟨w.heap.size, 3, none⟩ = some (.slice _ l1.length c1) := (blk_cell HD5.out 3).trans rfl; clear HB2 HD2 HE2 HB3 HD3 G1 G2 G3 HK HK2 G1' G2' G3' HK' HB4 HD4 hngh hclm HB1 HD1 HE1)))
      go_quiet (fail)
      go_wp2
      go_ret
      exact ⟨rfl, pw_below_drewN HB5.out _⟩
     ·rw [if_neg ho]
      have u7 : decide (a0_0 < tm - tp) = false := decide_eq_false ho
      clear ho
      (go_enter Try.func37, Try.ntmps37; go_wp2_with (first | (go_at_call 38; (with_reducible refine (hclm _ HB2.out).mono ?_); rintro e w1 ⟨rfl, hb1⟩; have HB1 := Aside0.mk (below_step HB2.out hb1); have HD1 := Aside0.mk (blk_below HD2.out hb1); have HE1 := Aside0.mk (blk_below HE2.out hb1); clear hb1; have hd0 : ∀ o, (w1.alloc o).cell? ⟨w.heap.size, 0, none⟩ = some (.int .i64 a0_0) := fun o => (blk_cell (blk_alloc HD1.out o) 0).trans rfl; have hd1 : ∀ o, (w1.alloc o).cell? ⟨w.heap.size, 1, none⟩ = some (.slice A0_1 l0_1.length c0_1) := fun o => (blk_cell (blk_alloc HD1.out o) 1).trans rfl; have hd2 : ∀ o, (w1.alloc o).cell? ⟨w.heap.size, 2, none⟩ = some (.slice A0_2 l0_2.length c0_2) := fun o => (blk_cell (blk_alloc HD1.out o) 2).trans rfl; have hd3 : ∀ o, (w1.alloc o).cell? ⟨w.heap.size, 3, none⟩ = some (.slice _ l1.length c1) := fun o => (blk_cell (blk_alloc HD1.out o) 3).trans rfl; have hd4 : ∀ o, (w1.alloc o).cell? ⟨w.heap.size, 4, none⟩ = some (.map (some b)) := fun o => (blk_cell (blk_alloc HD1.out o) 4).trans rfl; have he0 : ∀ o, (w1.alloc o).cell? ⟨w.heap.size + 1, 0, none⟩ = some (.int .i64 s) := fun o => (blk_cell (blk_alloc HE1.out o) 0).trans rfl; have he1 : ∀ o, (w1.alloc o).cell? ⟨w.heap.size + 1, 1, none⟩ = some (.int .i64 k) := fun o => (blk_cell (blk_alloc HE1.out o) 1).trans rfl) | (go_at_call 62; (with_reducible refine (hngh _ (HB1.out.alloc (HB1.out.size) _)).mono ?_); rintro e w3 ⟨ga, gs, gl, A, c, rfl, q1, q2, q3, q4, q5, q6, q7, q8, q9⟩; have HB3 := Aside0.mk (below_step (HB1.out.alloc (HB1.out.size) _) q9); have HD3 := Aside0.mk (blk_below (blk_alloc HD1.out _) q9); have HQ4 := Aside0.mk (fun W hW => q4 W hW); have hlt3 := HB1.out.size; simp only [World.size_alloc] at q8 q7; have HGS := Aside0.mk (show w.heap.size + 1 < gs from by have := blk_lt HE1.out; omega); have G1 := Aside0.mk q1; have G2 := Aside0.mk q2; have G3 := Aside0.mk q3; have G5 := Aside0.mk q5; have G6 := Aside0.mk q6; have HF := Aside0.mk (show ∀ ad, A = some ad → ad.block ≠ gs from fun ad e => by have := q7 ad e; omega); have HK := Aside0.mk (q4 _ q9); have HK2 := Aside0.mk (q4 _ (q9.setCell (p := ⟨gs, 0, none⟩) zq36 (.int .i64 (-1 + 1)))); clear q1 q2 q3 q4 q5 q6 q7 q8 q9 HQ4 hlt3; clear hd0 hd1 hd2 hd3 hd4 he0 he1) | (go_at_call 80; (with_reducible refine (clo80 ga gs gl _ (-1) A c L w3 G1.out G2.out G3.out HK.out G5.out G6.out HF.out zq18 zq24 zq18 zq18).mono ?_); rintro e w4 ⟨he, hw4⟩; rw [HPE.out] at he; subst he; have G1' := Aside0.mk ((congrArg (fun W : World => W.heap[ga]?) hw4).trans (blk_far G1.out (fun e => G6.out e.symm) _)); have G2' := Aside0.mk (show w4.heap[gs]? = some (.cells #[.int .i64 0] 3 (0, 0)) from by rw [hw4]; exact blk_put G2.out 0 _ rfl); have G3' := Aside0.mk ((congrArg (fun W : World => W.heap[gl]?) hw4).trans (blk_far G3.out (fun e => G5.out e.symm) _)); have HK' := Aside0.mk (show Kd.C (Kd.int .i64) w4 A L.length L from by rw [hw4]; exact HK2.out); have HB4 := Aside0.mk (show Below w.heap.size w w4 from by rw [hw4]; exact HB3.out.setCell (p := ⟨gs, 0, none⟩) zq25 _); have HD4 := Aside0.mk ((congrArg (fun W : World => W.heap[w.heap.size]?) hw4).trans (blk_far HD3.out zq25 _)); clear hw4) | (go_at_call 80; (with_reducible refine (clo80 ga gs gl _ 0 A c L w4 G1'.out G2'.out G3'.out HK'.out G5.out G6.out HF.out zq18 zq24 zq18 zq18).mono ?_); rintro e w5 ⟨he, hw5⟩; rw [HQE.out] at he; subst he; have HB5 := Aside0.mk (show Below w.heap.size w w5 from by rw [hw5]; exact HB4.out.setCell (p := ⟨gs, 0, none⟩) zq25 _); have HD5 := Aside0.mk ((congrArg (fun W : World => W.heap[w.heap.size]?) hw5).trans (blk_far HD4.out zq25 _)); clear hw5; (try have hx50 := HX0.out w5 HB5.out); (try have hx56 := HX6.out w5 HB5.out); (try have hy50 := HY0.out w5 HB5.out); (try have hy56 := HY6.out w5 HB5.out); (try have hz50 := HZ0.out w5 HB5.out); have hd0 : w5.cell? ⟨w.heap.size, 0, none⟩ = some (.int .i64 a0_0) := (blk_cell HD5.out 0).trans rfl; have hd3 : w5.cell? ⟨w.heap.size, 3, none⟩ = some (.slice _ l1.length c1) := (blk_cell HD5.out 3).trans rfl; clear HB2 HD2 HE2 HB3 HD3 G1 G2 G3 HK HK2 G1' G2' G3' HK' HB4 HD4 hngh hclm HB1 HD1 HE1)))
      go_quiet (fail)
      go_wp2
      go_ret
      exact ⟨rfl, pw_below_drewN HB5.out _⟩
    ·rw [if_neg zq18]
     obtain ⟨ad', e', hz⟩ := hel q hq hq'
     cases e'
     have HY0 := Aside0.mk (fun W hW => (hz W hW).1)
     have HY6 := Aside0.mk (fun W hW => (hz W hW).2)
     have u3 : decide (0 ≤ q) = true := decide_eq_true hq
     have u8 := eq_true hq
     have u9 : decide (q < (l1.length : Int)) = true := decide_eq_true hq'
     clear hz
     have htq : 0 ≤ (rd_T45 l1 q).f0 ∧ (rd_T45 l1 q).f0 ≤ 1000000000 := HT.out q.toNat
     by_cases hg : (rd_T45 l1 q).f6 = false
     ·rw [if_pos hg]
      rw [hg] at HY6
      clear htp htm htq hp hq hel
      (go_enter Try.func37, Try.ntmps37; go_wp2_with (first | (go_at_call 38; (with_reducible refine (hclm _ HB2.out).mono ?_); rintro e w1 ⟨rfl, hb1⟩; have HB1 := Aside0.mk (below_step HB2.out hb1); have HD1 := Aside0.mk (blk_below HD2.out hb1); have HE1 := Aside0.mk (blk_below HE2.out hb1); clear hb1; have hd0 : ∀ o, (w1.alloc o).cell? ⟨w.heap.size, 0, none⟩ = some (.int .i64 a0_0) := fun o => (blk_cell (blk_alloc HD1.out o) 0).trans rfl; have hd1 : ∀ o, (w1.alloc o).cell? ⟨w.heap.size, 1, none⟩ = some (.slice A0_1 l0_1.length c0_1) := fun o => (blk_cell (blk_alloc HD1.out o) 1).trans rfl; have hd2 : ∀ o, (w1.alloc o).cell? ⟨w.heap.size, 2, none⟩ = some (.slice A0_2 l0_2.length c0_2) := fun o => (blk_cell (blk_alloc HD1.out o) 2).trans rfl; have hd3 : ∀ o, (w1.alloc o).cell? ⟨w.heap.size, 3, none⟩ = some (.slice _ l1.length c1) := fun o => (blk_cell (blk_alloc HD1.out o) 3).trans rfl; have hd4 : ∀ o, (w1.alloc o).cell? ⟨w.heap.size, 4, none⟩ = some (.map (some b)) := fun o => (blk_cell (blk_alloc HD1.out o) 4).trans rfl; have he0 : ∀ o, (w1.alloc o).cell? ⟨w.heap.size + 1, 0, none⟩ = some (.int .i64 s) := fun o => (blk_cell (blk_alloc HE1.out o) 0).trans rfl; have he1 : ∀ o, (w1.alloc o).cell? ⟨w.heap.size + 1, 1, none⟩ = some (.int .i64 k) := fun o => (blk_cell (blk_alloc HE1.out o) 1).trans rfl) | (go_at_call 62; (with_reducible refine (hngh _ (HB1.out.alloc (HB1.out.size) _)).mono ?_); rintro e w3 ⟨ga, gs, gl, A, c, rfl, q1, q2, q3, q4, q5, q6, q7, q8, q9⟩; have HB3 := Aside0.mk (below_step (HB1.out.alloc (HB1.out.size) _) q9); have HD3 := Aside0.mk (blk_below (blk_alloc HD1.out _) q9); have HQ4 := Aside0.mk (fun W hW => q4 W hW); have hlt3 := HB1.out.size; simp only [World.size_alloc] at q8 q7; have HGS := Aside0.mk (show w.heap.size + 1 < gs from by have := blk_lt HE1.out; omega); have G1 := Aside0.mk q1; have G2 := Aside0.mk q2; have G3 := Aside0.mk q3; have G5 := Aside0.mk q5; have G6 := Aside0.mk q6; have HF := Aside0.mk (show ∀ ad, A = some ad → ad.block ≠ gs from fun ad e => by have := q7 ad e; omega); have HK := Aside0.mk (q4 _ q9); have HK2 := Aside0.mk (q4 _ (q9.setCell (p := ⟨gs, 0, none⟩) zq36 (.int .i64 (-1 + 1)))); clear q1 q2 q3 q4 q5 q6 q7 q8 q9 HQ4 hlt3; clear hd0 hd1 hd2 hd3 hd4 he0 he1) | (go_at_call 80; (with_reducible refine (clo80 ga gs gl _ (-1) A c L w3 G1.out G2.out G3.out HK.out G5.out G6.out HF.out zq18 zq24 zq18 zq18).mono ?_); rintro e w4 ⟨he, hw4⟩; rw [HPE.out] at he; subst he; have G1' := Aside0.mk ((congrArg (fun W : World => W.heap[ga]?) hw4).trans (blk_far G1.out (fun e => G6.out e.symm) _)); have G2' := Aside0.mk (show w4.heap[gs]? = some (.cells #[.int .i64 0] 3 (0, 0)) from by rw [hw4]; exact blk_put G2.out 0 _ rfl); have G3' := Aside0.mk ((congrArg (fun W : World => W.heap[gl]?) hw4).trans (blk_far G3.out (fun e => G5.out e.symm) _)); have HK' := Aside0.mk (show Kd.C (Kd.int .i64) w4 A L.length L from by rw [hw4]; exact HK2.out); have HB4 := Aside0.mk (show Below w.heap.size w w4 from by rw [hw4]; exact HB3.out.setCell (p := ⟨gs, 0, none⟩) zq25 _); have HD4 := Aside0.mk ((congrArg (fun W : World => W.heap[w.heap.size]?) hw4).trans (blk_far HD3.out zq25 _)); clear hw4) | (go_at_call 80; (with_reducible refine (clo80 ga gs gl _ 0 A c L w4 G1'.out G2'.out G3'.out HK'.out G5.out G6.out HF.out zq18 zq24 zq18 zq18).mono ?_); rintro e w5 ⟨he, hw5⟩; rw [HQE.out] at he; subst he; have HB5 := Aside0.mk (show Below w.heap.size w w5 from by rw [hw5]; exact HB4.out.setCell (p := ⟨gs, 0, none⟩) zq25 _); have HD5 := Aside0.mk ((congrArg (fun W : World => W.heap[w.heap.size]?) hw5).trans (blk_far HD4.out zq25 _)); clear hw5; (try have hx50 := HX0.out w5 HB5.out); (try have hx56 := HX6.out w5 HB5.out); (try have hy50 := HY0.out w5 HB5.out); (try have hy56 := HY6.out w5 HB5.out); (try have hz50 := HZ0.out w5 HB5.out); have hd0 : w5.cell? ⟨w.heap.size, 0, none⟩ = some (.int .i64 a0_0) := (blk_cell HD5.out 0).trans rfl; have hd3 : w5.cell? ⟨w.heap.size, 3, none⟩ = some (.slice _ l1.length c1) := (blk_cell HD5.out 3).trans rfl; clear HB2 HD2 HE2 HB3 HD3 G1 G2 G3 HK HK2 G1' G2' G3' HK' HB4 HD4 hngh hclm HB1 HD1 HE1)))
      go_ret
      exact ⟨rfl, HB5.out⟩
     ·rw [if_neg hg]
      replace hg : (rd_T45 l1 q).f6 = true := by simpa using hg
      rw [hg] at HY6
      generalize (rd_T45 l1 p).f0 = tp at HX0 htp ⊢
      generalize (rd_T45 l1 q).f0 = tq at HY0 htq ⊢
      have hwt : wrap64 (tq - tp) = tq - tp := by unfold wrap64; omega
      have hwt2 : IntKind.i64.wrap (tq - tp) = tq - tp := Go.IntWalk.i64_in _ zq18
      clear htp htm htq hp hq hel hf hg
      by_cases ho : tq - tp > a0_0
      ·rw [if_pos ho]
       have u7 : decide (a0_0 < tq - tp) = true := decide_eq_true ho
       clear ho
       (go_enter Try.func37, Try.ntmps37; go_wp2_with (first | (go_at_call 38; (with_reducible refine (hclm _ HB2.out).mono ?_); rintro e w1 ⟨rfl, hb1⟩; have HB1 := Aside0.mk (below_step HB2.out hb1); have HD1 := Aside0.mk (blk_below HD2.out hb1); have HE1 := Aside0.mk (blk_below HE2.out hb1); clear hb1; have hd0 : ∀ o, (w1.alloc o).cell? ⟨w.heap.size, 0, none⟩ = some (.int .i64 a0_0) := fun o => (blk_cell (blk_alloc HD1.out o) 0).trans rfl; have hd1 : ∀ o, (w1.alloc o).cell? ⟨w.heap.size, 1, none⟩ = some (.slice A0_1 l0_1.length c0_1) := fun o => (blk_cell (blk_alloc HD1.out o) 1).trans rfl; have hd2 : ∀ o, (w1.alloc o).cell? ⟨w.heap.size, 2, none⟩ = some (.slice A0_2 l0_2.length c0_2) := fun o => (blk_cell (blk_alloc HD1.out o) 2).trans rfl; have hd3 : ∀ o, (w1.alloc o).cell? ⟨w.heap.size, 3, none⟩ = some (.slice _ l1.length c1) := fun o => (blk_cell (blk_alloc HD1.out o) 3).trans rfl; have hd4 : ∀ o, (w1.alloc o).cell? ⟨w.heap.size, 4, none⟩ = some (.map (some b)) := fun o => (blk_cell (blk_alloc HD1.out o) 4).trans rfl; have he0 : ∀ o, (w1.alloc o).cell? ⟨w.heap.size + 1, 0, none⟩ = some (.int .i64 s) := fun o => (blk_cell (blk_alloc HE1.out o) 0).trans rfl; have he1 : ∀ o, (w1.alloc o).cell? ⟨w.heap.size + 1, 1, none⟩ = some (.int .i64 k) := fun o => (blk_cell (blk_alloc HE1.out o) 1).trans rfl) | (go_at_call 62; (with_reducible refine (hngh _ (HB1.out.alloc (HB1.out.size) _)).mono ?_); rintro e w3 ⟨ga, gs, gl, A, c, rfl, q1, q2, q3, q4, q5, q6, q7, q8, q9⟩; have HB3 := Aside0.mk (below_step (HB1.out.alloc (HB1.out.size) _) q9); have HD3 := Aside0.mk (blk_below (blk_alloc HD1.out _) q9); have HQ4 := Aside0.mk (fun W hW => q4 W hW); have hlt3 := HB1.out.size; simp only [World.size_alloc] at q8 q7; have HGS := Aside0.mk (show w.heap.size + 1 < gs from by have := blk_lt HE1.out; omega); have G1 := Aside0.mk q1; have G2 := Aside0.mk q2; have G3 := Aside0.mk q3; have G5 := Aside0.mk q5; have G6 := Aside0.mk q6; have HF := Aside0.mk (show ∀ ad, A = some ad → ad.block ≠ gs from fun ad e => by have := q7 ad e; omega); have HK := Aside0.mk (q4 _ q9); have HK2 := Aside0.mk (q4 _ (q9.setCell (p := ⟨gs, 0, none⟩) zq36 (.int .i64 (-1 + 1)))); clear q1 q2 q3 q4 q5 q6 q7 q8 q9 HQ4 hlt3; clear hd0 hd1 hd2 hd3 hd4 he0 he1) | (go_at_call 80; (with_reducible refine (clo80 ga gs gl _ (-1) A c L w3 G1.out G2.out G3.out HK.out G5.out G6.out HF.out zq18 zq24 zq18 zq18).mono ?_); rintro e w4 ⟨he, hw4⟩; rw [HPE.out] at he; subst he; have G1' := Aside0.mk ((congrArg (fun W : World => W.heap[ga]?) hw4).trans (blk_far G1.out (fun e => G6.out e.symm) _)); have G2' := Aside0.mk (show w4.heap[gs]? = some (.cells #[.int .i64 0] 3 (0, 0)) from by rw [hw4]; exact blk_put G2.out 0 _ rfl); have G3' := Aside0.mk ((congrArg (fun W : World => W.heap[gl]?) hw4).trans (blk_far G3.out (fun e => G5.out e.symm) _)); have HK' := Aside0.mk (show Kd.C (Kd.int .i64) w4 A L.length L from by rw [hw4]; exact HK2.out); have HB4 := Aside0.mk (show Below w.heap.size w w4 from by rw [hw4]; exact HB3.out.setCell (p := ⟨gs, 0, none⟩) zq25 _); have HD4 := Aside0.mk ((congrArg (fun W : World => W.heap[w.heap.size]?) hw4).trans (blk_far HD3.out zq25 _)); clear hw4) | (go_at_call 80; (with_reducible refine (clo80 ga gs gl _ 0 A c L w4 G1'.out G2'.out G3'.out HK'.out G5.out G6.out HF.out zq18 zq24 zq18 zq18).mono ?_); rintro e w5 ⟨he, hw5⟩; rw [HQE.out] at he; subst he; have HB5 := Aside0.mk (show Below w.heap.size w w5 from by rw [hw5]; exact HB4.out.setCell (p := ⟨gs, 0, none⟩) zq25 _); have HD5 := Aside0.mk ((congrArg (fun W : World => W.heap[w.heap.size]?) hw5).trans (blk_far HD4.out zq25 _)); clear hw5; (try have hx50 := HX0.out w5 HB5.out); (try have hx56 := HX6.out w5 HB5.out); (try have hy50 := HY0.out w5 HB5.out); (try have hy56 := HY6.out w5 HB5.out); (try have hz50 := HZ0.out w5 HB5.out); have hd0 : w5.cell? ⟨w.heap.size, 0, none⟩ = some (.int .i64 a0_0) := (blk_cell HD5.out 0).trans rfl; have hd3 : w5.cell? ⟨w.heap.size, 3, none⟩ = some (.slice _ l1.length c1) := (blk_cell HD5.out 3).trans rfl; clear HB2 HD2 HE2 HB3 HD3 G1 G2 G3 HK HK2 G1' G2' G3' HK' HB4 HD4 hngh hclm HB1 HD1 HE1)))
       go_quiet (fail)
       go_wp2
       go_ret
       exact ⟨rfl, pw_below_drewN HB5.out _⟩
      ·rw [if_neg ho]
       have u7 : decide (a0_0 < tq - tp) = false := decide_eq_false ho
       clear ho
       (go_enter Try.func37, Try.ntmps37; go_wp2_with (first | (go_at_call 38; (with_reducible refine (hclm _ HB2.out).mono ?_); rintro e w1 ⟨rfl, hb1⟩; have HB1 := Aside0.mk (below_step HB2.out hb1); have HD1 := Aside0.mk (blk_below HD2.out hb1); have HE1 := Aside0.mk (blk_below HE2.out hb1); clear hb1; have hd0 : ∀ o, (w1.alloc o).cell? ⟨w.heap.size, 0, none⟩ = some (.int .i64 a0_0) := fun o => (blk_cell (blk_alloc HD1.out o) 0).trans rfl; have hd1 : ∀ o, (w1.alloc o).cell? ⟨w.heap.size, 1, none⟩ = some (.slice A0_1 l0_1.length c0_1) := fun o => (blk_cell (blk_alloc HD1.out o) 1).trans rfl; have hd2 : ∀ o, (w1.alloc o).cell? ⟨w.heap.size, 2, none⟩ = some (.slice A0_2 l0_2.length c0_2) := fun o => (blk_cell (blk_alloc HD1.out o) 2).trans rfl; have hd3 : ∀ o, (w1.alloc o).cell? ⟨w.heap.size, 3, none⟩ = some (.slice _ l1.length c1) := fun o => (blk_cell (blk_alloc HD1.out o) 3).trans rfl; have hd4 : ∀ o, (w1.alloc o).cell? ⟨w.heap.size, 4, none⟩ = some (.map (some b)) := fun o => (blk_cell (blk_alloc HD1.out o) 4).trans rfl; have he0 : ∀ o, (w1.alloc o).cell? ⟨w.heap.size + 1, 0, none⟩ = some (.int .i64 s) := fun o => (blk_cell (blk_alloc HE1.out o) 0).trans rfl; have he1 : ∀ o, (w1.alloc o).cell? ⟨w.heap.size + 1, 1, none⟩ = some (.int .i64 k) := fun o => (blk_cell (blk_alloc HE1.out o) 1).trans rfl) | (go_at_call 62; (with_reducible refine (hngh _ (HB1.out.alloc (HB1.out.size) _)).mono ?_); rintro e w3 ⟨ga, gs, gl, A, c, rfl, q1, q2, q3, q4, q5, q6, q7, q8, q9⟩; have HB3 := Aside0.mk (below_step (HB1.out.alloc (HB1.out.size) _) q9); have HD3 := Aside0.mk (blk_below (blk_alloc HD1.out _) q9); have HQ4 := Aside0.mk (fun W hW => q4 W hW); have hlt3 := HB1.out.size; simp only [World.size_alloc] at q8 q7; have HGS := Aside0.mk (show w.heap.size + 1 < gs from by have := blk_lt HE1.out; omega); have G1 := Aside0.mk q1; have G2 := Aside0.mk q2; have G3 := Aside0.mk q3; have G5 := Aside0.mk q5; have G6 := Aside0.mk q6; have HF := Aside0.mk (show ∀ ad, A = some ad → ad.block ≠ gs from fun ad e => by have := q7 ad e; omega); have HK := Aside0.mk (q4 _ q9); have HK2 := Aside0.mk (q4 _ (q9.setCell (p := ⟨gs, 0, none⟩) zq36 (.int .i64 (-1 + 1)))); clear q1 q2 q3 q4 q5 q6 q7 q8 q9 HQ4 hlt3; clear hd0 hd1 hd2 hd3 hd4 he0 he1) | (go_at_call 80; (with_reducible refine (clo80 ga gs gl _ (-1) A c L w3 G1.out G2.out G3.out HK.out G5.out G6.out HF.out zq18 zq24 zq18 zq18).mono ?_); rintro e w4 ⟨he, hw4⟩; rw [HPE.out] at he; subst he; have G1' := Aside0.mk ((congrArg (fun W : World => W.heap[ga]?) hw4).trans (blk_far G1.out (fun e => G6.out e.symm) _)); have G2' := Aside0.mk (show w4.heap[gs]? = some (.cells #[.int .i64 0] 3 (0, 0)) from by rw [hw4]; exact blk_put G2.out 0 _ rfl); have G3' := Aside0.mk ((congrArg (fun W : World => W.heap[gl]?) hw4).trans (blk_far G3.out (fun e => G5.out e.symm) _)); have HK' := Aside0.mk (show Kd.C (Kd.int .i64) w4 A L.length L from by rw [hw4]; exact HK2.out); have HB4 := Aside0.mk (show Below w.heap.size w w4 from by rw [hw4]; exact HB3.out.setCell (p := ⟨gs, 0, none⟩) zq25 _); have HD4 := Aside0.mk ((congrArg (fun W : World => W.heap[w.heap.size]?) hw4).trans (blk_far HD3.out zq25 _)); clear hw4) | (go_at_call 80; (with_reducible refine (clo80 ga gs gl _ 0 A c L w4 G1'.out G2'.out G3'.out HK'.out G5.out G6.out HF.out zq18 zq24 zq18 zq18).mono ?_); rintro e w5 ⟨he, hw5⟩; rw [HQE.out] at he; subst he; have HB5 := Aside0.mk (show Below w.heap.size w w5 from by rw [hw5]; exact HB4.out.setCell (p := ⟨gs, 0, none⟩) zq25 _); have HD5 := Aside0.mk ((congrArg (fun W : World => W.heap[w.heap.size]?) hw5).trans (blk_far HD4.out zq25 _)); clear hw5; (try have hx50 := HX0.out w5 HB5.out); (try have hx56 := HX6.out w5 HB5.out); (try have hy50 := HY0.out w5 HB5.out); (try have hy56 := HY6.out w5 HB5.out); (try have hz50 := HZ0.out w5 HB5.out); have hd0 : w5.cell? ⟨w.heap.size, 0, none⟩ = some (.int .i64 a0_0) := (blk_cell HD5.out 0).trans rfl; have hd3 : w5.cell? ⟨w.heap.size, 3, none⟩ = some (.slice _ l1.length c1) := (blk_cell HD5.out 3).trans rfl; clear HB2 HD2 HE2 HB3 HD3 G1 G2 G3 HK HK2 G1' G2' G3' HK' HB4 HD4 hngh hclm HB1 HD1 HE1)))
       go_quiet (fail)
       go_wp2
       go_ret
       exact ⟨rfl, pw_below_drewN HB5.out _⟩
def opn (v k : Int) : Value := if v = 1 then .iface 128 (.agg #[]) else if v = 2 then .iface 129 (.agg #[]) else if v = 3 then .iface 131 (.agg #[.int .i64 k]) else .iface 132 (.agg #[.int .i64 k])
theorem as128_128 (k : Int) (w : World) : (Instr.typeAssert (.iface 128 (.agg #[])) 97 128 true).run Try.prog w = .ok (.tuple #[.agg #[], .bool true]) w := by kernel_rfl
theorem as128_129 (k : Int) (w : World) : (Instr.typeAssert (.iface 128 (.agg #[])) 97 129 true).run Try.prog w = .ok (.tuple #[.agg #[], .bool false]) w := by kernel_rfl
theorem as128_131 (k : Int) (w : World) : (Instr.typeAssert (.iface 128 (.agg #[])) 97 131 true).run Try.prog w = .ok (.tuple #[.agg #[.int .i64 0], .bool false]) w := by kernel_rfl
theorem as129_128 (k : Int) (w : World) : (Instr.typeAssert (.iface 129 (.agg #[])) 97 128 true).run Try.prog w = .ok (.tuple #[.agg #[], .bool false]) w := by kernel_rfl
theorem as129_129 (k : Int) (w : World) : (Instr.typeAssert (.iface 129 (.agg #[])) 97 129 true).run Try.prog w = .ok (.tuple #[.agg #[], .bool true]) w := by kernel_rfl
theorem as129_131 (k : Int) (w : World) : (Instr.typeAssert (.iface 129 (.agg #[])) 97 131 true).run Try.prog w = .ok (.tuple #[.agg #[.int .i64 0], .bool false]) w := by kernel_rfl
theorem as131_128 (k : Int) (w : World) : (Instr.typeAssert (.iface 131 (.agg #[.int .i64 k])) 97 128 true).run Try.prog w = .ok (.tuple #[.agg #[], .bool false]) w := by kernel_rfl
theorem as131_129 (k : Int) (w : World) : (Instr.typeAssert (.iface 131 (.agg #[.int .i64 k])) 97 129 true).run Try.prog w = .ok (.tuple #[.agg #[], .bool false]) w := by kernel_rfl
theorem as131_131 (k : Int) (w : World) : (Instr.typeAssert (.iface 131 (.agg #[.int .i64 k])) 97 131 true).run Try.prog w = .ok (.tuple #[.agg #[.int .i64 k], .bool true]) w := by kernel_rfl
theorem as132_128 (k : Int) (w : World) : (Instr.typeAssert (.iface 132 (.agg #[.int .i64 k])) 97 128 true).run Try.prog w = .ok (.tuple #[.agg #[], .bool false]) w := by kernel_rfl
theorem as132_129 (k : Int) (w : World) : (Instr.typeAssert (.iface 132 (.agg #[.int .i64 k])) 97 129 true).run Try.prog w = .ok (.tuple #[.agg #[], .bool false]) w := by kernel_rfl
theorem as132_131 (k : Int) (w : World) : (Instr.typeAssert (.iface 132 (.agg #[.int .i64 k])) 97 131 true).run Try.prog w = .ok (.tuple #[.agg #[.int .i64 0], .bool false]) w := by kernel_rfl
set_option maxHeartbeats 4000000 in
theorem verdict128 (k : Int) (w : World) : Calls Try.prog 51 #[.iface 128 (.agg #[])] w fun e w' => e = .returned (.int .u8 1) ∧ w' = w := by
 have h128 := as128_128 k
 have h129 := as128_129 k
 have h131 := as128_131 k
 go_enter Try.func51, Try.ntmps51
 go_wp2
 go_ret
 exact ⟨rfl, rfl⟩
set_option maxHeartbeats 4000000 in
theorem verdict129 (k : Int) (w : World) : Calls Try.prog 51 #[.iface 129 (.agg #[])] w fun e w' => e = .returned (.int .u8 2) ∧ w' = w := by
 have h128 := as129_128 k
 have h129 := as129_129 k
 have h131 := as129_131 k
 go_enter Try.func51, Try.ntmps51
 go_wp2
 go_ret
 exact ⟨rfl, rfl⟩
set_option maxHeartbeats 4000000 in
theorem verdict131 (k : Int) (w : World) : Calls Try.prog 51 #[.iface 131 (.agg #[.int .i64 k])] w fun e w' => e = .returned (.int .u8 3) ∧ w' = w := by
 have h128 := as131_128 k
 have h129 := as131_129 k
 have h131 := as131_131 k
 go_enter Try.func51, Try.ntmps51
 go_wp2
 go_ret
 exact ⟨rfl, rfl⟩
set_option maxHeartbeats 4000000 in
theorem verdict132 (k : Int) (w : World) : Calls Try.prog 51 #[.iface 132 (.agg #[.int .i64 k])] w fun e w' => e = .returned (.int .u8 0) ∧ w' = w := by
 have h128 := as132_128 k
 have h129 := as132_129 k
 have h131 := as132_131 k
 go_enter Try.func51, Try.ntmps51
 go_wp2
 go_ret
 exact ⟨rfl, rfl⟩
theorem inspect_verdict.calls (v k : Int) (w : World) (hv : v = 0 ∨ v = 1 ∨ v = 2 ∨ v = 3) :
  Calls Try.prog 51 #[opn v k] w fun e w' => e = .returned (.int .u8 v) ∧ w' = w := by
 rcases hv with rfl | rfl | rfl | rfl
 ·exact verdict132 k w
 ·exact verdict128 k w
 ·exact verdict129 k w
 ·exact verdict131 k w
set_option maxHeartbeats 4000000 in
theorem class128 (k : Int) (w : World) : Calls Try.prog 122 #[.agg #[]] w fun e w' => e = .returned (.int .i64 (-1)) ∧ Below w.heap.size w w' := by
 have hb := (Below.refl w.heap.size w).alloc (Nat.le_refl _) (.cells #[] 128)
 go_enter Try.func122, Try.ntmps122
 go_wp2
 go_ret
 exact ⟨rfl, hb⟩
set_option maxHeartbeats 4000000 in
theorem class129 (k : Int) (w : World) : Calls Try.prog 123 #[.agg #[]] w fun e w' => e = .returned (.int .i64 (-1)) ∧ Below w.heap.size w w' := by
 have hb := (Below.refl w.heap.size w).alloc (Nat.le_refl _) (.cells #[] 129)
 go_enter Try.func123, Try.ntmps123
 go_wp2
 go_ret
 exact ⟨rfl, hb⟩
set_option maxHeartbeats 4000000 in
theorem class131 (k : Int) (w : World) : Calls Try.prog 124 #[.agg #[.int .i64 k]] w fun e w' => e = .returned (.int .i64 (k)) ∧ Below w.heap.size w w' := by
 have hb := (Below.refl w.heap.size w).alloc (Nat.le_refl _) (.cells #[.int .i64 k] 131)
 go_enter Try.func124, Try.ntmps124
 go_wp2
 go_ret
 exact ⟨rfl, hb⟩
set_option maxHeartbeats 4000000 in
theorem class132 (k : Int) (w : World) : Calls Try.prog 125 #[.agg #[.int .i64 k]] w fun e w' => e = .returned (.int .i64 (k)) ∧ Below w.heap.size w w' := by
 have hb := (Below.refl w.heap.size w).alloc (Nat.le_refl _) (.cells #[.int .i64 k] 132)
 go_enter Try.func125, Try.ntmps125
 go_wp2
 go_ret
 exact ⟨rfl, hb⟩
def clmB (st : List S56) (s k : Int) : Bool := (rd_T56 st s).f1.any (fun x => x.f0 == k)
def trU (every : Int) (st : List S56) (l : List S45) (s k entry : Int) : Int := trustS every l (chP l s k l.length) (clmB st s k) entry
def howN (every : Int) (st : List S56) (l : List S45) (k entry t : Int) : Nat → Int
 | 0 => 0
 | n + 1 => if trU every st l n k entry = t then howN every st l k entry t n + 1 else howN every st l k entry t n
theorem howN_le (every : Int) (st : List S56) (l : List S45) (k entry t : Int) : ∀ n : Nat, 0 ≤ howN every st l k entry t n ∧ howN every st l k entry t n ≤ n
 | 0 => by simp [howN]
 | n + 1 => by
  have := howN_le every st l k entry t n
  unfold howN
  split <;> omega
def judgeL (every : Int) (st : List S56) (l : List S45) (entry : Int) : List S58 → Nat → Int × Int → Int × Int
 | [], _, wv => wv
 | x :: xs, i, wv =>
  if howN every st l i entry 1 st.length + howN every st l i entry 0 st.length < x.f1 then (3, (i : Int)) else
  if wv.1 = 2 ∧ howN every st l i entry 1 st.length < x.f1 then judgeL every st l entry xs (i + 1) (0, (i : Int)) else judgeL every st l entry xs (i + 1) wv
def judgeS (every : Int) (fl : List S58) (st : List S56) (l : List S45) (entry : Int) : Int × Int :=
 if (rd_T45 l entry).f6 = true then (1, -1) else judgeL every st l entry fl 0 (2, -1)
theorem claim_some (a0 : Int) (fl : List S58) (st : List S56) (s k : Int) (h0 : 0 ≤ s) (h1 : s < st.length) : ∃ r1 r2 r3, inspect_claim.f a0 fl st s k = some (r1, r2, r3, clmB st s k) := by
 unfold inspect_claim.f IdxClaim.f clmB
 rw [if_pos h0, if_pos h1]
 simp only [Option.bind_some]
 have h2 := idxOf_any (fun x : S68 => x.f0 == k) (rd_T56 st s).f1
 have h3 := idxOf_lo (fun x : S68 => x.f0 == k) (rd_T56 st s).f1
 rw [← h2]
 by_cases h : idxOf (fun x : S68 => x.f0 == k) (rd_T56 st s).f1 < 0
 ·rw [if_pos h, decide_eq_false zq18]
  exact ⟨_, _, _, rfl⟩
 ·rw [if_neg h, if_pos zq18, if_pos zq18, decide_eq_true zq18]
  exact ⟨_, _, _, rfl⟩
theorem small_wf (n : Int) (h0 : -1000000000000 ≤ n) (h1 : n ≤ 1000000000000) : (Lit.int .i64 n).wf = true := by
 have := wrap64_wf n
 rwa [show wrap64 n = n from by unfold wrap64; omega] at this
structure Desk (w : World) (A0_1 : Option Addr) (c0_1 : Nat) (l0_1 : List S58) (A0_2 : Option Addr) (c0_2 : Nat) (l0_2 : List S56) (A1 : Option Addr) (c1 : Nat) (l1 : List S45) (b : Nat) : Prop where
 r01 : Kd.C k58 w A0_1 l0_1.length l0_1
 h01 : l0_1.length ≤ c0_1
 r02 : Kd.C k56 w A0_2 l0_2.length l0_2
 h02 : l0_2.length ≤ c0_2
 r1 : Kd.C k45 w A1 l1.length l1
 desk : DeskIs w b l1
 len : l1.length ≤ 512
 n1 : l0_1.length ≤ 8
 n2 : l0_2.length ≤ 4
 ht : ∀ n, 0 ≤ (l1.getD n z45).f0 ∧ (l1.getD n z45).f0 ≤ 1000000000
theorem Desk.below {w W : World} {A0_1 : Option Addr} {c0_1 : Nat} {l0_1 : List S58} {A0_2 : Option Addr} {c0_2 : Nat} {l0_2 : List S56} {A1 : Option Addr} {c1 : Nat} {l1 : List S45} {b : Nat} (h : Desk w A0_1 c0_1 l0_1 A0_2 c0_2 l0_2 A1 c1 l1 b) (hb : Below w.heap.size w W) : Desk W A0_1 c0_1 l0_1 A0_2 c0_2 l0_2 A1 c1 l1 b :=
 ⟨Kd.C_below h.r01 hb, h.h01, Kd.C_below h.r02 hb, h.h02, Kd.C_below h.r1 hb, h.desk.below hb, h.len, h.n1, h.n2, h.ht⟩
theorem Desk.trusted {w : World} {A0_1 : Option Addr} {c0_1 : Nat} {l0_1 : List S58} {A0_2 : Option Addr} {c0_2 : Nat} {l0_2 : List S56} {A1 : Option Addr} {c1 : Nat} {l1 : List S45} {b : Nat} (h : Desk w A0_1 c0_1 l0_1 A0_2 c0_2 l0_2 A1 c1 l1 b) (a0_0 s k entry : Int) (h0 : 0 ≤ s) (h1 : s < l0_2.length) (hk0 : 0 ≤ k) (hk1 : k ≤ 8) :
  Calls Try.prog 37 #[.agg #[.int .i64 a0_0, .slice A0_1 l0_1.length c0_1, .slice A0_2 l0_2.length c0_2, .slice A1 l1.length c1, .map (some b)], .agg #[.int .i64 s, .int .i64 k], .int .i64 entry] w fun e w' =>
   e = .returned (.int .u8 (trU a0_0 l0_2 l1 s k entry)) ∧ Below w.heap.size w w' := by
 obtain ⟨r1, r2, r3, hc⟩ := claim_some a0_0 l0_1 l0_2 s k h0 h1
 have := h.n2
 exact inspect_trusted.calls a0_0 A0_1 c0_1 l0_1 A0_2 c0_2 l0_2 A1 c1 l1 b s k entry w r1 r2 r3 _ h.r01 h.h01 h.r02 h.h02 h.r1 h.desk h.len (small_wf s zq18 zq18) (small_wf k zq18 zq18) hc h.ht
def entErr (fl : List S58) (st : List S56) (x : S45) : Int :=
 if x.f1 = 1 then (if win x.f2 0 1000000 = false then 1 else if win x.f3 0 999 = false then 1 else if x.f4 = 0 then (if x.f5 = 0 then 0 else 1) else 1)
 else if win x.f4 0 ((st.length : Int) - 1) = false then 7 else if win x.f5 0 ((fl.length : Int) - 1) = false then 7 else if clmB st x.f4 x.f5 = false then 9 else if x.f2 = 0 then (if x.f3 = 0 then 0 else 1) else 1
theorem entryError_eq (a0 : Int) (fl : List S58) (st : List S56) (x : S45) (hf : fl.length ≤ 1000) (hs : st.length ≤ 1000) (k : Nat) (hk : 1 ≤ k) : inspect_entryError.f k a0 fl st x.f0 x.f1 x.f2 x.f3 x.f4 x.f5 x.f6 = some (entErr fl st x) := by
 obtain ⟨k, rfl⟩ : ∃ m, k = m + 1 := ⟨k - 1, zq18⟩
 unfold inspect_entryError.f entErr
 simp only [within_eq, Option.bind_some]
 rw [wpred _ zq18, wpred _ zq18]
 by_cases h1 : x.f1 = 1
 ·rw [if_pos h1, if_pos h1]
  by_cases h4 : x.f4 = 0 <;> by_cases h5 : x.f5 = 0 <;> cases win x.f2 0 1000000 <;> cases win x.f3 0 999 <;> simp [h4, h5]
 ·rw [if_neg h1, if_neg h1]
  cases hw : win x.f4 0 ((st.length : Int) - 1)
  ·simp [inspect_entryError.j0]
  ·cases win x.f5 0 ((fl.length : Int) - 1)
   ·simp [inspect_entryError.j0]
   ·have hb : 0 ≤ x.f4 ∧ x.f4 < st.length := by
     unfold win at hw
     simp only [Bool.and_eq_true, decide_eq_true_eq] at hw
     omega
    obtain ⟨r1, r2, r3, hc⟩ := claim_some a0 fl st x.f4 x.f5 hb.1 hb.2
    simp only [if_true, Bool.not_true, inspect_entryError.j0, hc, Option.bind_some]
    by_cases h2 : x.f2 = 0 <;> by_cases h3 : x.f3 = 0 <;> cases clmB st x.f4 x.f5 <;> simp [h2, h3]
def runErr (fl : List S58) (st : List S56) (l : List S45) (i : Nat) : Int :=
 if ¬ ((rd_T45 l i).f1 = 1 ∨ (rd_T45 l i).f1 = 2) then 1 else if win (rd_T45 l i).f0 0 1000000000 = false then 1 else
 if 0 < i ∧ (rd_T45 l ((i : Int) - 1)).f0 > (rd_T45 l i).f0 then 8 else entErr fl st (rd_T45 l i)
def logS (every : Int) (fl : List S58) (st : List S56) (l : List S45) : Int :=
 if chkS every fl st = 0 then (if 512 < l.length then 3 else firstErr (runErr fl st l) l.length 0) else chkS every fl st
theorem CheckLog_l0 (a0 : Int) (fl : List S58) (st : List S56) (l : List S45) (hf : fl.length ≤ 1000) (hs : st.length ≤ 1000) (hl : l.length ≤ 512) : ∀ r i k, i + r = l.length → 3 * r + 5 < k → inspect_CheckLog.l0 k l l (l.length : Int) (i : Int) a0 fl st = some (firstErr (runErr fl st l) r i)
 | 0, i, k, h, hk => by
  obtain ⟨k, rfl⟩ : ∃ m, k = m + 1 := ⟨k - 1, zq18⟩
  rw [inspect_CheckLog.l0, if_neg zq18]
  rfl
 | r + 1, i, k, h, hk => by
  obtain ⟨k, rfl⟩ : ∃ m, k = m + 1 + 1 + 1 := ⟨k - 3, zq18⟩
  have ih := CheckLog_l0 a0 fl st l hf hs hl r (i + 1) k zq18 zq18
  rw [firstErr_succ]
  have hj2 : ∀ b, inspect_CheckLog.j2 (k + 1) l l (l.length : Int) (i : Int) b a0 fl st (rd_T45 l i).f0 (rd_T45 l i).f1 (rd_T45 l i).f2 (rd_T45 l i).f3 (rd_T45 l i).f4 (rd_T45 l i).f5 (rd_T45 l i).f6 = some (if b = true then 8 else if entErr fl st (rd_T45 l i) = 0 then firstErr (runErr fl st l) r (i + 1) else entErr fl st (rd_T45 l i)) := by
   intro b
   rw [inspect_CheckLog.j2, entryError_eq a0 fl st _ hf hs k zq18, wsucc i zq18, ih, Option.bind_some]
   cases b
   ·simp only [Bool.false_eq_true, if_false]
    split <;> rfl
   ·rfl
  have hj1 : inspect_CheckLog.j1 (k + 1 + 1) l (i : Int) l (l.length : Int) (i : Int) false a0 fl st (rd_T45 l i).f0 (rd_T45 l i).f1 (rd_T45 l i).f2 (rd_T45 l i).f3 (rd_T45 l i).f4 (rd_T45 l i).f5 (rd_T45 l i).f6 = some (if 0 < i ∧ (rd_T45 l ((i : Int) - 1)).f0 > (rd_T45 l i).f0 then 8 else if entErr fl st (rd_T45 l i) = 0 then firstErr (runErr fl st l) r (i + 1) else entErr fl st (rd_T45 l i)) := by
   rw [inspect_CheckLog.j1, wpred i zq18, if_neg zq50]
   by_cases h0 : 0 < i
   ·rw [if_pos zq18, if_pos zq18, if_pos zq18, hj2]
    by_cases h1 : (rd_T45 l ((i : Int) - 1)).f0 > (rd_T45 l i).f0
    ·rw [decide_eq_true h1, if_pos rfl, if_pos (show 0 < i ∧ _ from ⟨h0, h1⟩)]
    ·rw [decide_eq_false h1, if_neg (show ¬ false = true by decide), if_neg (show ¬ (0 < i ∧ _) from fun hh => h1 hh.2)]
   ·rw [if_neg zq18, hj2, if_neg (show ¬ false = true by decide), if_neg (show ¬ (0 < i ∧ _) from fun hh => h0 hh.1)]
  have hjt : inspect_CheckLog.j1 (k + 1 + 1) l (i : Int) l (l.length : Int) (i : Int) true a0 fl st (rd_T45 l i).f0 (rd_T45 l i).f1 (rd_T45 l i).f2 (rd_T45 l i).f3 (rd_T45 l i).f4 (rd_T45 l i).f5 (rd_T45 l i).f6 = some 1 := by
   rw [inspect_CheckLog.j1, if_pos rfl]
  rw [inspect_CheckLog.l0, if_pos zq18, if_pos zq18, if_pos zq18]
  simp only [within_eq, Option.bind_some]
  have hre : runErr fl st l i = if ¬ ((rd_T45 l i).f1 = 1 ∨ (rd_T45 l i).f1 = 2) then 1 else if win (rd_T45 l i).f0 0 1000000000 = false then 1 else
   if 0 < i ∧ (rd_T45 l ((i : Int) - 1)).f0 > (rd_T45 l i).f0 then 8 else entErr fl st (rd_T45 l i) := rfl
  have hre2 : ∀ c : Prop, [Decidable c] → (if (if c then (8 : Int) else entErr fl st (rd_T45 l i)) = 0 then firstErr (runErr fl st l) r (i + 1) else (if c then (8 : Int) else entErr fl st (rd_T45 l i))) = if c then 8 else if entErr fl st (rd_T45 l i) = 0 then firstErr (runErr fl st l) r (i + 1) else entErr fl st (rd_T45 l i) := by
   intro c _
   by_cases hc : c
   ·rw [if_pos hc, if_pos hc]; rfl
   ·rw [if_neg hc, if_neg hc]
  rw [hre]
  cases hw : win (rd_T45 l i).f0 0 1000000000
  ·simp only [Bool.not_false, hjt, if_true, ite_self]
   simp
  ·simp only [Bool.not_true, hj1, hjt, Bool.true_eq_false, if_false]
   by_cases h1 : (rd_T45 l i).f1 = 1
   ·rw [if_pos h1, if_neg (show ¬ ¬ ((rd_T45 l i).f1 = 1 ∨ (rd_T45 l i).f1 = 2) from fun h => h (.inl h1)), hre2]
   ·rw [if_neg h1]
    by_cases h2 : (rd_T45 l i).f1 = 2
    ·rw [if_pos h2, if_neg (show ¬ ¬ ((rd_T45 l i).f1 = 1 ∨ (rd_T45 l i).f1 = 2) from fun h => h (.inr h2)), hre2]
    ·rw [if_neg h2, if_pos (fun h => h.elim h1 h2)]
     rfl
theorem chkS_zero {every : Int} {fl : List S58} {st : List S56} (h : chkS every fl st = 0) : (1 ≤ every ∧ every ≤ 1000000000) ∧ fl.length ≤ 8 ∧ st.length ≤ 4 ∧ (∀ i, i < fl.length → flawErr fl i = 0) ∧ (∀ i, i < st.length → standErr fl st i = 0) := by
 unfold chkS at h
 split at h
 ·exact absurd h zq50
 ·rename_i hw
  split at h
  ·exact absurd h zq50
  ·split at h
   ·rename_i hf
    split at h
    ·exact absurd h zq50
    ·refine ⟨?_, zq18, zq18, fun i hi => firstErr_zero _ _ _ hf i zq18 zq18, fun i hi => firstErr_zero _ _ _ h i zq18 zq18⟩
     unfold win at hw
     simp only [Bool.and_eq_false_iff, decide_eq_false_iff_not, not_or, Decidable.not_not] at hw
     exact hw
   ·rename_i hf
    exact absurd h hf
theorem CheckLog_eq (a0 : Int) (fl : List S58) (st : List S56) (l : List S45) (k : Nat) (hk : 2000 ≤ k) : inspect_CheckLog.f k a0 fl st l = some (logS a0 fl st l) := by
 unfold inspect_CheckLog.f logS
 rw [Check_eq a0 fl st k zq18, Option.bind_some]
 by_cases h0 : chkS a0 fl st = 0
 ·rw [if_pos h0, if_pos h0]
  obtain ⟨_, h1, h2, _⟩ := chkS_zero h0
  by_cases h : 512 < l.length
  ·rw [if_pos zq18, if_pos h]
  ·rw [if_neg zq18, if_neg h]
   exact CheckLog_l0 a0 fl st l zq18 zq18 zq18 l.length 0 k zq18 zq18
 ·rw [if_neg h0, if_neg h0]
structure Valid (every : Int) (fl : List S58) (st : List S56) (l : List S45) : Prop where
 ev : 1 ≤ every ∧ every ≤ 1000000000
 n1 : fl.length ≤ 8
 n2 : st.length ≤ 4
 len : l.length ≤ 512
 fe : ∀ i, i < fl.length → flawErr fl i = 0
 se : ∀ i, i < st.length → standErr fl st i = 0
 re : ∀ i, i < l.length → runErr fl st l i = 0
theorem logS_valid {every : Int} {fl : List S58} {st : List S56} {l : List S45} (h : logS every fl st l = 0) : Valid every fl st l := by
 unfold logS at h
 split at h
 ·rename_i h0
  obtain ⟨h1, h2, h3, h4, h5⟩ := chkS_zero h0
  split at h
  ·exact absurd h zq50
  ·exact ⟨h1, h2, h3, zq18, h4, h5, fun i hi => firstErr_zero _ _ _ h i zq18 zq18⟩
 ·rename_i h0
  exact absurd h h0
theorem meth129 (w : World) : (method 279 129 (.agg #[]) "cullet/inspect.class").run Try.prog w = .ok (123, .agg #[]) w := by kernel_rfl
theorem meth132 (k : Int) (w : World) : (method 279 132 (.agg #[.int .i64 k]) "cullet/inspect.class").run Try.prog w = .ok (125, .agg #[.int .i64 k]) w := by kernel_rfl
set_option maxHeartbeats 4000000 in
set_option maxRecDepth 100000 in
theorem inspect_judged.calls (a0_0 : Int) (A0_1 : Option Addr) (c0_1 : Nat) (l0_1 : List S58) (A0_2 : Option Addr) (c0_2 : Nat) (l0_2 : List S56) (A1 : Option Addr) (c1 : Nat) (l1 : List S45) (b : Nat) (entry : Int) (w : World)
  (hd : Desk w A0_1 c0_1 l0_1 A0_2 c0_2 l0_2 A1 c1 l1 b) (he0 : 0 ≤ entry) (he1 : entry < l1.length) :
  Calls Try.prog 50 #[.agg #[.int .i64 a0_0, .slice A0_1 l0_1.length c0_1, .slice A0_2 l0_2.length c0_2, .slice A1 l1.length c1, .map (some b)], .int .i64 entry] w fun e w' =>
   e = .returned (opn (judgeS a0_0 l0_1 l0_2 l1 entry).1 (judgeS a0_0 l0_1 l0_2 l1 entry).2) ∧ Below w.heap.size w w' := by
 obtain ⟨ad, e, hx0, hx1, hx2, hx3, hx4, hx5, hx6⟩ := at_T45 hd.r1 entry he0 he1
 have HDK := Aside0.mk hd
 clear hd
 clear hx0 hx1 hx2 hx3 hx4 hx5
 have hb1 := (Below.refl w.heap.size w).alloc (Nat.le_refl _) (.cells #[.int .i64 a0_0, .slice A0_1 l0_1.length c0_1, .slice A0_2 l0_2.length c0_2, .slice A1 l1.length c1, .map (some b)] 77)
 have hy6 := (hb1.cell (World.block_lt_of_cell? w _ hx6)).trans hx6
 have HB1 := Aside0.mk hb1
 have HD1 := Aside0.mk (blk_new w (.cells #[.int .i64 a0_0, .slice A0_1 l0_1.length c0_1, .slice A0_2 l0_2.length c0_2, .slice A1 l1.length c1, .map (some b)] 77))
 have g0 := eq_true he0
 clear hb1 hx6
 unfold judgeS
 cases hf : (rd_T45 l1 entry).f6 with
 | true =>
  rw [hf] at hy6
  rw [if_pos rfl]
  have ho : opn 1 (-1) = .iface 128 (.agg #[]) := rfl
  cases e
  go_enter Try.func50, Try.ntmps50
  go_wp2
  go_ret
  exact ⟨rfl, HB1.out⟩
 | false =>
  rw [hf] at hy6
  rw [if_neg zq50]
  cases e
  have ho : opn 2 (-1) = .iface 129 (.agg #[]) := rfl
  generalize hans : judgeL a0_0 l0_2 l1 entry l0_1 0 (2, -1) = ans
  have HANS := Aside0.mk hans
  clear hans
  go_enter Try.func50, Try.ntmps50
  go_wp2
  go_loopg [5, 25] l0_1.length (fun gg s5 s25 wr => ∃ (i : Nat) (v k : Int), s25 = .int .i64 (i : Int) ∧ s5 = opn v k ∧ Aside0 (i ≤ l0_1.length ∧ l0_1.length - i ≤ gg ∧ (v = 2 ∨ v = 0 ∧ 0 ≤ k)) ∧ Aside0 (judgeL a0_0 l0_2 l1 entry (l0_1.drop i) i (v, k) = ans) ∧ Aside0 (Below w.heap.size w wr) ∧
   Aside0 (wr.heap[w.heap.size]? = some (.cells #[.int .i64 a0_0, .slice A0_1 l0_1.length c0_1, .slice A0_2 l0_2.length c0_2, .slice (some ad) l1.length c1, .map (some b)] 77 (0, 0))))
  case atStart => exact ⟨0, 2, -1, rfl, rfl, ⟨zq18, zq18, .inl rfl⟩, ⟨by rw [List.drop_zero]; exact HANS.out⟩, ⟨HB1.out⟩, ⟨HD1.out⟩⟩
  case round =>
   obtain ⟨i, v, k, rfl, rfl, hi, HJ, HB, HD⟩ := hrel
   by_cases hlt : i < l0_1.length
   ·obtain ⟨wo, hwo⟩ : ∃ wo, wo = wr := ⟨_, rfl⟩
    subst hwo
    have hlt' : (i : Int) < (l0_1.length : Int) := by omega
    have hb0 : decide (i < l0_1.length) = true := decide_eq_true hlt
    obtain ⟨ad1, e1, hy0, hy1⟩ := at_T58 HDK.out.r01 (i : Int) zq18 hlt'
    cases e1
    replace hy0 := (HB.out.cell (World.block_lt_of_cell? w _ hy0)).trans hy0
    replace hy1 := (HB.out.cell (World.block_lt_of_cell? w _ hy1)).trans hy1
    simp only [Int.toNat_natCast] at hy0 hy1
    have hq0 : 0 ≤ (i : Int) := by omega
    have hq1 : (i : Int) ≤ 7 := by have := HDK.out.n1; omega
    have hdrop : l0_1.drop i = rd_T58 l0_1 (i : Int) :: l0_1.drop (i + 1) := by
     rw [List.drop_eq_getElem_cons hlt]
     simp [rd_T58, List.getD_eq_getElem?_getD, List.getElem?_eq_getElem hlt]
    have HJ2 := Aside0.mk (show judgeL a0_0 l0_2 l1 entry (rd_T58 l0_1 (i : Int) :: l0_1.drop (i + 1)) i (v, k) = ans from by rw [← hdrop]; exact HJ.out)
    clear hdrop HJ
    generalize rd_T58 l0_1 (i : Int) = x at hy0 hy1 HJ2
    have hd02 : ∀ o, (wo.alloc o).cell? ⟨w.heap.size, 2, none⟩ = some (.slice A0_2 l0_2.length c0_2) := fun o => (blk_cell (blk_alloc HD.out o) 2).trans rfl
    have hws : w.heap.size < wo.heap.size := blk_lt HD.out
    have HBX := Aside0.mk (HB.out.alloc HB.out.size (.cells #[.string x.f0, .int .i64 x.f1] 58))
    have HDX := Aside0.mk (blk_alloc HD.out (.cells #[.string x.f0, .int .i64 x.f1] 58))
    have HXX := Aside0.mk (blk_new wo (.cells #[.string x.f0, .int .i64 x.f1] 58))
    clear hy6
    go_wp2
    go_loopg [8, 9, 34] l0_2.length (fun gj s8 s9 s34 wr => ∃ (j : Nat), s34 = .int .i64 (j : Int) ∧ s8 = .int .i64 (howN a0_0 l0_2 l1 (i : Int) entry 1 j) ∧ s9 = .int .i64 (howN a0_0 l0_2 l1 (i : Int) entry 0 j) ∧ Aside0 (j ≤ l0_2.length ∧ l0_2.length - j ≤ gj) ∧ Aside0 (Below w.heap.size w wr) ∧
     Aside0 (wr.heap[w.heap.size]? = some (.cells #[.int .i64 a0_0, .slice (some ad1) l0_1.length c0_1, .slice A0_2 l0_2.length c0_2, .slice (some ad) l1.length c1, .map (some b)] 77 (0, 0))) ∧ Aside0 (wr.heap[wo.heap.size]? = some (.cells #[.string x.f0, .int .i64 x.f1] 58 (0, 0))))
    case atStart => exact ⟨0, rfl, rfl, rfl, ⟨zq18, zq18⟩, HBX, HDX, HXX⟩
    case round =>
     clear hy0 hy1
     obtain ⟨j, rfl, rfl, rfl, hj, HBi, HDi, HXi⟩ := hrel
     by_cases hltj : j < l0_2.length
     ·have hltj' : (j : Int) < (l0_2.length : Int) := by omega
      have hbj : decide (j < l0_2.length) = true := decide_eq_true hltj
      have hqj : (j : Int) ≤ 3 := by have := HDK.out.n2; omega
      have hd0 : wr.cell? ⟨w.heap.size, 0, none⟩ = some (.int .i64 a0_0) := (blk_cell HDi.out 0).trans rfl
      have hd1 : wr.cell? ⟨w.heap.size, 1, none⟩ = some (.slice (some ad1) l0_1.length c0_1) := (blk_cell HDi.out 1).trans rfl
      have hd2 : wr.cell? ⟨w.heap.size, 2, none⟩ = some (.slice A0_2 l0_2.length c0_2) := (blk_cell HDi.out 2).trans rfl
      have hd3 : wr.cell? ⟨w.heap.size, 3, none⟩ = some (.slice (some ad) l1.length c1) := (blk_cell HDi.out 3).trans rfl
      have hd4 : wr.cell? ⟨w.heap.size, 4, none⟩ = some (.map (some b)) := (blk_cell HDi.out 4).trans rfl
      have hcall := (HDK.out.below HBi.out).trusted a0_0 (j : Int) (i : Int) entry zq18 hltj' hq0 zq18
      have hn1 := howN_le a0_0 l0_2 l1 (i : Int) entry 1 j
      have hn0 := howN_le a0_0 l0_2 l1 (i : Int) entry 0 j
      have hr1 : howN a0_0 l0_2 l1 (i : Int) entry 1 (j + 1) = if trU a0_0 l0_2 l1 (j : Int) (i : Int) entry = 1 then howN a0_0 l0_2 l1 (i : Int) entry 1 j + 1 else howN a0_0 l0_2 l1 (i : Int) entry 1 j := rfl
      have hr0 : howN a0_0 l0_2 l1 (i : Int) entry 0 (j + 1) = if trU a0_0 l0_2 l1 (j : Int) (i : Int) entry = 0 then howN a0_0 l0_2 l1 (i : Int) entry 0 j + 1 else howN a0_0 l0_2 l1 (i : Int) entry 0 j := rfl
      generalize howN a0_0 l0_2 l1 (i : Int) entry 1 j = y1 at hn1 hr1 ⊢
      generalize howN a0_0 l0_2 l1 (i : Int) entry 0 j = y0 at hn0 hr0 ⊢
      have hw1 : wrap64 (y1 + 1) = y1 + 1 := by unfold wrap64; omega
      have hw0 : wrap64 (y0 + 1) = y0 + 1 := by unfold wrap64; omega
      generalize trU a0_0 l0_2 l1 (j : Int) (i : Int) entry = t at hcall hr1 hr0
      have HR1 := Aside0.mk hr1
      have HR0 := Aside0.mk hr0
      clear hr1 hr0 hn1 hn0 hltj'
      by_cases ht1 : t = 1
      ·subst ht1
       go_wp2_with (go_at_call 37; (with_reducible refine hcall.mono ?_); rintro e wc ⟨rfl, hb⟩; have HBc := Aside0.mk (below_step HBi.out hb); have HDc := Aside0.mk (blk_below HDi.out hb); have HXc := Aside0.mk (blk_below HXi.out hb); clear hb)
       go_roundg (l0_2.length - (j + 1))
       case measure => have := hj.out; omega
       case rel => exact ⟨j + 1, zq54, (by rw [HR1.out, hw1]; simp), by rw [HR0.out, if_neg zq50], ⟨zq18⟩, HBc, HDc, HXc⟩
      ·by_cases ht0 : t = 0
       ·subst ht0
        go_wp2_with (go_at_call 37; (with_reducible refine hcall.mono ?_); rintro e wc ⟨rfl, hb⟩; have HBc := Aside0.mk (below_step HBi.out hb); have HDc := Aside0.mk (blk_below HDi.out hb); have HXc := Aside0.mk (blk_below HXi.out hb); clear hb)
        go_roundg (l0_2.length - (j + 1))
        case measure => have := hj.out; omega
        case rel => exact ⟨j + 1, zq54, by rw [HR1.out, if_neg zq50], (by rw [HR0.out, hw0]; simp), ⟨zq18⟩, HBc, HDc, HXc⟩
       ·have hb1 : (t == 1) = false := by simpa using ht1
        have hb2 : (t == 0) = false := by simpa using ht0
        have HT1 := Aside0.mk ht1
        have HT0 := Aside0.mk ht0
        clear ht1 ht0
        go_wp2_with (go_at_call 37; (with_reducible refine hcall.mono ?_); rintro e wc ⟨rfl, hb⟩; have HBc := Aside0.mk (below_step HBi.out hb); have HDc := Aside0.mk (blk_below HDi.out hb); have HXc := Aside0.mk (blk_below HXi.out hb); clear hb)
        go_roundg (l0_2.length - (j + 1))
        case measure => have := hj.out; omega
        case rel => exact ⟨j + 1, zq54, by rw [HR1.out, if_neg HT1.out], by rw [HR0.out, if_neg HT0.out], ⟨zq18⟩, HBc, HDc, HXc⟩
     ·have hlenj : j = l0_2.length := by have := hj.out; omega
      have hbj : decide (j < l0_2.length) = false := decide_eq_false hltj
      subst hlenj
      clear hltj
      have hJ := HJ2.out
      unfold judgeL at hJ
      have hn1 := howN_le a0_0 l0_2 l1 (i : Int) entry 1 l0_2.length
      have hn0 := howN_le a0_0 l0_2 l1 (i : Int) entry 0 l0_2.length
      generalize howN a0_0 l0_2 l1 (i : Int) entry 1 l0_2.length = y1 at hn1 hJ ⊢
      generalize howN a0_0 l0_2 l1 (i : Int) entry 0 l0_2.length = y0 at hn0 hJ ⊢
      have hn2 := HDK.out.n2
      have hw1 : wrap64 (y1 + y0) = y1 + y0 := by unfold wrap64; omega
      have hx1 : wr.cell? ⟨wo.heap.size, 1, none⟩ = some (.int .i64 x.f1) := (blk_cell HXi.out 1).trans rfl
      clear hn1 hn0 hn2
      by_cases hs : y1 + y0 < x.f1
      ·have hbs : decide (y1 + y0 < x.f1) = true := decide_eq_true hs
       rw [if_pos hs] at hJ
       have HJ3 := Aside0.mk hJ
       clear hJ hs
       go_wp2
       go_ret
       refine ⟨?_, HBi.out⟩
       rw [← HJ3.out]
       rfl
      ·have hbs : decide (y1 + y0 < x.f1) = false := decide_eq_false hs
       rw [if_neg hs] at hJ
       clear hs
       rcases hi.out.2.2 with rfl | ⟨rfl, hk⟩
       ·have hop : opn 2 k = .iface 129 (.agg #[]) := rfl
        rw [hop]
        have hcl := class129 k wr
        have hme := meth129
        have HI := Aside0.mk (And.intro hi.out.1 hi.out.2.1)
        clear hi hop
        by_cases hg : y1 < x.f1
        ·have hbg : decide (y1 < x.f1) = true := decide_eq_true hg
         rw [if_pos ⟨rfl, hg⟩] at hJ
         have HJ3 := Aside0.mk hJ
         clear hJ hg
         go_wp2_with (go_at_call 123; (with_reducible refine hcl.mono ?_); rintro e wc ⟨rfl, hb⟩; have HBc := Aside0.mk (below_step HBi.out hb); have HDc := Aside0.mk (blk_below HDi.out hb); have hxc : wc.cell? ⟨wo.heap.size, 1, none⟩ = some (.int .i64 x.f1) := (blk_cell (blk_below HXi.out hb) 1).trans rfl; clear hb)
         go_roundg (l0_1.length - (i + 1))
         case measure => have := HI.out; omega
         case rel => exact ⟨i + 1, 0, (i : Int), zq54, rfl, ⟨zq18, zq18, .inr ⟨rfl, zq18⟩⟩, HJ3, HBc, HDc⟩
        ·have hbg : decide (y1 < x.f1) = false := decide_eq_false hg
         rw [if_neg (fun h => hg h.2)] at hJ
         have HJ3 := Aside0.mk hJ
         clear hJ hg
         go_wp2_with (go_at_call 123; (with_reducible refine hcl.mono ?_); rintro e wc ⟨rfl, hb⟩; have HBc := Aside0.mk (below_step HBi.out hb); have HDc := Aside0.mk (blk_below HDi.out hb); have hxc : wc.cell? ⟨wo.heap.size, 1, none⟩ = some (.int .i64 x.f1) := (blk_cell (blk_below HXi.out hb) 1).trans rfl; clear hb)
         go_roundg (l0_1.length - (i + 1))
         case measure => have := HI.out; omega
         case rel => exact ⟨i + 1, 2, k, zq54, rfl, ⟨zq18, zq18, .inl rfl⟩, HJ3, HBc, HDc⟩
       ·have hop : opn 0 k = .iface 132 (.agg #[.int .i64 k]) := rfl
        rw [hop]
        have hcl := class132 k wr
        have hme := meth132 k
        have HI := Aside0.mk (And.intro hi.out.1 hi.out.2.1)
        have HKK := Aside0.mk hk
        have hbk : decide (k < 0) = false := decide_eq_false zq18
        clear hi hop hk
        rw [if_neg (fun h => absurd (show (0 : Int) = 2 from h.1) zq50)] at hJ
        have HJ3 := Aside0.mk hJ
        clear hJ
        go_wp2_with (go_at_call 125; (with_reducible refine hcl.mono ?_); rintro e wc ⟨rfl, hb⟩; have HBc := Aside0.mk (below_step HBi.out hb); have HDc := Aside0.mk (blk_below HDi.out hb); have hxc : wc.cell? ⟨wo.heap.size, 1, none⟩ = some (.int .i64 x.f1) := (blk_cell (blk_below HXi.out hb) 1).trans rfl; clear hb)
        go_roundg (l0_1.length - (i + 1))
        case measure => have := HI.out; omega
        case rel => exact ⟨i + 1, 0, k, zq54, rfl, ⟨zq18, zq18, .inr ⟨rfl, HKK.out⟩⟩, HJ3, HBc, HDc⟩
   ·have hlen : i = l0_1.length := by have := hi.out; omega
    have hb0 : decide (i < l0_1.length) = false := decide_eq_false hlt
    have HLEN := Aside0.mk hlen
    clear hlen
    go_wp2
    go_ret
    refine ⟨?_, HB.out⟩
    have hj := HJ.out
    rw [HLEN.out, List.drop_length] at hj
    rw [← hj]
    rfl
def vdS (every : Int) (fl : List S58) (st : List S56) (l : List S45) (i : Nat) : Int := if (l.getD i z45).f1 = 1 then (judgeS every fl st l i).1 else 1
def verdP (every : Int) (fl : List S58) (st : List S56) (l : List S45) : Nat → List Int
 | 0 => []
 | i + 1 => verdP every fl st l i ++ [vdS every fl st l i]
theorem verdP_len (every : Int) (fl : List S58) (st : List S56) (l : List S45) : ∀ n, (verdP every fl st l n).length = n
 | 0 => rfl
 | n + 1 => by simp [verdP, verdP_len every fl st l n]
theorem judgeL_v (every : Int) (st : List S56) (l : List S45) (entry : Int) : ∀ (fl : List S58) (i : Nat) (wv : Int × Int), (wv.1 = 2 ∧ wv.2 = -1 ∨ wv.1 = 0 ∧ 0 ≤ wv.2) →
  (judgeL every st l entry fl i wv).1 = 2 ∧ (judgeL every st l entry fl i wv).2 = -1 ∨ (judgeL every st l entry fl i wv).1 = 0 ∨ (judgeL every st l entry fl i wv).1 = 3
 | [], i, wv, h => by
  rcases h with h | h
  ·exact .inl h
  ·exact .inr (.inl h.1)
 | x :: xs, i, wv, h => by
  unfold judgeL
  split
  ·exact .inr (.inr rfl)
  ·split
   ·exact judgeL_v every st l entry xs (i + 1) (0, (i : Int)) (.inr ⟨rfl, zq51⟩)
   ·exact judgeL_v every st l entry xs (i + 1) wv h
theorem judgeS_v (every : Int) (fl : List S58) (st : List S56) (l : List S45) (entry : Int) :
  ((judgeS every fl st l entry).1 = 1 ∨ (judgeS every fl st l entry).1 = 2) ∧ (judgeS every fl st l entry).2 = -1 ∨ (judgeS every fl st l entry).1 = 0 ∨ (judgeS every fl st l entry).1 = 3 := by
 unfold judgeS
 split
 ·exact .inl ⟨.inl rfl, rfl⟩
 ·rcases judgeL_v every st l entry fl 0 (2, -1) (.inl ⟨rfl, rfl⟩) with h | h | h
  ·exact .inl ⟨.inr h.1, h.2⟩
  ·exact .inr (.inl h)
  ·exact .inr (.inr h)
theorem judgeS_v4 (every : Int) (fl : List S58) (st : List S56) (l : List S45) (entry : Int) :
  (judgeS every fl st l entry).1 = 0 ∨ (judgeS every fl st l entry).1 = 1 ∨ (judgeS every fl st l entry).1 = 2 ∨ (judgeS every fl st l entry).1 = 3 := by
 rcases judgeS_v every fl st l entry with ⟨h | h, _⟩ | h | h
 ·exact .inr (.inl h)
 ·exact .inr (.inr (.inl h))
 ·exact .inl h
 ·exact .inr (.inr (.inr h))
theorem set_mid (A B : List Int) (x v : Int) (i : Nat) (h : A.length = i) : (A ++ x :: B).set i v = A ++ v :: B := by
 subst h
 induction A with
 | nil => rfl
 | cons a A ih => simp [ih]
set_option maxHeartbeats 4000000 in
set_option maxRecDepth 100000 in
theorem inspect_verdicts.calls (a0_0 : Int) (A0_1 : Option Addr) (c0_1 : Nat) (l0_1 : List S58) (A0_2 : Option Addr) (c0_2 : Nat) (l0_2 : List S56) (A1 : Option Addr) (c1 : Nat) (l1 : List S45) (b : Nat) (w : World)
  (hd : Desk w A0_1 c0_1 l0_1 A0_2 c0_2 l0_2 A1 c1 l1 b) :
  Calls Try.prog 33 #[.agg #[.int .i64 a0_0, .slice A0_1 l0_1.length c0_1, .slice A0_2 l0_2.length c0_2, .slice A1 l1.length c1, .map (some b)]] w fun e w' =>
   ∃ g, e = .returned (.slice (some ⟨g, 0, none⟩) l1.length l1.length) ∧ w'.ownsRow w.heap.size 46 1 (.slice (some ⟨g, 0, none⟩) l1.length l1.length) l1.length (nums .u8 (verdP a0_0 l0_1 l0_2 l1 l1.length)) ∧ Below w.heap.size w w' := by
 have HDK := Aside0.mk hd
 have hmk := print_make (P := Try.prog) 74 46 .u8 1 Try.underlying74 zq26 zq18 l1.length (by have := hd.len; omega)
 clear hd
 have hb1 := (Below.refl w.heap.size w).alloc (Nat.le_refl _) (.cells #[.int .i64 a0_0, .slice A0_1 l0_1.length c0_1, .slice A0_2 l0_2.length c0_2, .slice A1 l1.length c1, .map (some b)] 77)
 have HB1 := Aside0.mk (hb1.alloc hb1.size (.cells (madeCells #[.int .u8 0] l1.length) 46))
 have HD1 := Aside0.mk (blk_alloc (blk_new w (.cells #[.int .i64 a0_0, .slice A0_1 l0_1.length c0_1, .slice A0_2 l0_2.length c0_2, .slice A1 l1.length c1, .map (some b)] 77)) (.cells (madeCells #[.int .u8 0] l1.length) 46))
 have HO1 := Aside0.mk (own_made (w.alloc (.cells #[.int .i64 a0_0, .slice A0_1 l0_1.length c0_1, .slice A0_2 l0_2.length c0_2, .slice A1 l1.length c1, .map (some b)] 77)) w.heap.size 46 .u8 l1.length hb1.size (by have := HDK.out.len; omega))
 clear hb1
 simp only [World.size_alloc] at HO1
 go_enter Try.func33, Try.ntmps33
 go_wp2
 go_loopg [13] l1.length (fun gg s13 wr => ∃ i : Nat, s13 = .int .i64 (i : Int) ∧ Aside0 (i ≤ l1.length ∧ l1.length - i ≤ gg) ∧ Aside0 (Below w.heap.size w wr) ∧
  Aside0 (wr.heap[w.heap.size]? = some (.cells #[.int .i64 a0_0, .slice A0_1 l0_1.length c0_1, .slice A0_2 l0_2.length c0_2, .slice A1 l1.length c1, .map (some b)] 77 (0, 0))) ∧
  Aside0 (wr.ownsRow w.heap.size 46 1 (.slice (some ⟨w.heap.size + 1, 0, none⟩) l1.length l1.length) l1.length (nums .u8 (verdP a0_0 l0_1 l0_2 l1 i ++ List.replicate (l1.length - i) 0))))
 case atStart => exact ⟨0, rfl, ⟨zq18, zq18⟩, HB1, HD1, ⟨HO1.out⟩⟩
 case round =>
  obtain ⟨i, rfl, hi, HB, HD, HO⟩ := hrel
  by_cases hlt : i < l1.length
  ·have hlt' : (i : Int) < (l1.length : Int) := by omega
   have hb0 : decide (i < l1.length) = true := decide_eq_true hlt
   obtain ⟨ad, e, hx0, hx1, hx2, hx3, hx4, hx5, hx6⟩ := at_T45 HDK.out.r1 (i : Int) zq18 hlt'
   cases e
   replace hx0 := hcx HB.out hx0
   replace hx1 := hcx HB.out hx1
   replace hx2 := hcx HB.out hx2
   replace hx3 := hcx HB.out hx3
   replace hx4 := hcx HB.out hx4
   replace hx5 := hcx HB.out hx5
   replace hx6 := hcx HB.out hx6
   simp only [Int.toNat_natCast] at hx0 hx1 hx2 hx3 hx4 hx5 hx6
   have hq0 : 0 ≤ (i : Int) := by omega
   have hq1 : (i : Int) ≤ 511 := by have := HDK.out.len; omega
   have hvd : vdS a0_0 l0_1 l0_2 l1 i = if (rd_T45 l1 (i : Int)).f1 = 1 then (judgeS a0_0 l0_1 l0_2 l1 i).1 else 1 := by simp [vdS, rd_T45]
   generalize rd_T45 l1 (i : Int) = x at hx0 hx1 hx2 hx3 hx4 hx5 hx6 hvd
   have HVD := Aside0.mk hvd
   clear hvd
   have hrep : List.replicate (l1.length - i) (0 : Int) = 0 :: List.replicate (l1.length - (i + 1)) 0 := by
    rw [show l1.length - i = l1.length - (i + 1) + 1 from by omega]
    rfl
   have ho := HO.out
   rw [hrep] at ho
   have hlen := verdP_len a0_0 l0_1 l0_2 l1 i
   have hws := blk_lt HD.out
   have hne := own_ne_cells ho HD.out zq50
   have hne' : w.heap.size + 1 ≠ w.heap.size := by omega
   have hob : w.heap.size + 1 < wr.heap.size := own_lt ho _ rfl
   have hca := own_at ho (i : Int) hq0 hlt'
   simp only [Int.toNat_natCast] at hca
   obtain ⟨hc1, hf1⟩ := hca
   have ho3 := (own_store ho (i : Int) 1).1
   simp only [Int.toNat_natCast] at ho3
   rw [set_mid _ _ _ _ i hlen] at ho3
   have ho2 := own_move (w1 := (wr.setCell ⟨w.heap.size + 1, i, none⟩ (.int .u8 1)).alloc (.cells #[.int .i64 x.f0, .int .u8 x.f1, .int .i64 x.f2, .int .i64 x.f3, .int .i64 x.f4, .int .i64 x.f5, .bool x.f6] 45)) ho3 (fun k hk => Below.heap_alloc _ _ k (own_lt ho3 k hk))
   have HO3 := Aside0.mk ho2
   have HB3 := Aside0.mk ((HB.out.setCell (p := ⟨w.heap.size + 1, i, none⟩) (by simp only; omega) (.int .u8 1)).alloc (HB.out.setCell (p := ⟨w.heap.size + 1, i, none⟩) (by simp only; omega) (.int .u8 1)).size (.cells #[.int .i64 x.f0, .int .u8 x.f1, .int .i64 x.f2, .int .i64 x.f3, .int .i64 x.f4, .int .i64 x.f5, .bool x.f6] 45))
   have hD3 := blk_alloc (blk_far HD.out (p := ⟨w.heap.size + 1, i, none⟩) (by simp only; omega) (.int .u8 1)) (.cells #[.int .i64 x.f0, .int .u8 x.f1, .int .i64 x.f2, .int .i64 x.f3, .int .i64 x.f4, .int .i64 x.f5, .bool x.f6] 45)
   have hX3 := blk_new (wr.setCell ⟨w.heap.size + 1, i, none⟩ (.int .u8 1)) (.cells #[.int .i64 x.f0, .int .u8 x.f1, .int .i64 x.f2, .int .i64 x.f3, .int .i64 x.f4, .int .i64 x.f5, .bool x.f6] 45)
   simp only [World.size_setCell] at hX3
   have HD3 := Aside0.mk hD3
   have hk1 := (blk_cell hX3 1).trans (rfl : _ = some (Value.int .u8 x.f1))
   have hd0 := (blk_cell hD3 0).trans (rfl : _ = some (Value.int .i64 a0_0))
   have hd1 := (blk_cell hD3 1).trans (rfl : _ = some (Value.slice A0_1 l0_1.length c0_1))
   have hd2 := (blk_cell hD3 2).trans (rfl : _ = some (Value.slice A0_2 l0_2.length c0_2))
   have hd3 := (blk_cell hD3 3).trans (rfl : _ = some (Value.slice (some ad) l1.length c1))
   have hd4 := (blk_cell hD3 4).trans (rfl : _ = some (Value.map (some b)))
   clear hD3 hX3 ho ho2 ho3 hne hne' hrep
   by_cases hk : x.f1 = 1
   ·have hkb : (x.f1 == 1) = true := by simp [hk]
    have HK := Aside0.mk hk
    clear hk hlt'
    have hcall := inspect_judged.calls a0_0 A0_1 c0_1 l0_1 A0_2 c0_2 l0_2 (some ad) c1 l1 b (i : Int) _ (HDK.out.below HB3.out) zq18 zq18
    have hver := inspect_verdict.calls (judgeS a0_0 l0_1 l0_2 l1 i).1 (judgeS a0_0 l0_1 l0_2 l1 i).2
    have hv4 := judgeS_v4 a0_0 l0_1 l0_2 l1 i
    generalize judgeS a0_0 l0_1 l0_2 l1 (i : Int) = j at hcall hver hv4 HVD
    go_wp2_with (first
     | (go_at_call 50; (with_reducible refine hcall.mono ?_); rintro e wc ⟨rfl, hb⟩; have HBc := Aside0.mk (below_step HB3.out hb); have HDc := Aside0.mk (blk_below HD3.out hb); have hoc := own_move HO3.out (fun k hk => hb.block k (own_lt HO3.out k hk)); have hca := own_at hoc (i : Int) hq0 zq18; simp only [Int.toNat_natCast] at hca; obtain ⟨hc2, hf2⟩ := hca; have hoc2 := (own_store hoc (i : Int) j.1).1; simp only [Int.toNat_natCast] at hoc2; rw [set_mid _ _ _ _ i hlen] at hoc2; have HOc := Aside0.mk hoc2; clear hb hoc hoc2)
     | (go_at_call 51; (with_reducible refine (hver _ hv4).mono ?_); rintro e wv ⟨rfl, rfl⟩))
    go_roundg (l1.length - (i + 1))
    case measure => have := hi.out; omega
    case rel =>
     refine ⟨i + 1, zq54, ⟨zq18⟩, ⟨HBc.out.setCell (p := ⟨w.heap.size + 1, i, none⟩) (by simp only; omega) _⟩, ⟨blk_far HDc.out (p := ⟨w.heap.size + 1, i, none⟩) (by simp only; omega) _⟩, ⟨?_⟩⟩
     have h := HOc.out
     unfold verdP
     rw [List.append_assoc, HVD.out, if_pos HK.out]
     exact h
   ·have hkb : (x.f1 == 1) = false := by simp [hk]
    have HK := Aside0.mk hk
    clear hk hlt'
    go_wp2
    go_roundg (l1.length - (i + 1))
    case measure => have := hi.out; omega
    case rel =>
     refine ⟨i + 1, zq54, ⟨zq18⟩, HB3, HD3, ⟨?_⟩⟩
     have h := HO3.out
     unfold verdP
     rw [List.append_assoc, HVD.out, if_neg HK.out]
     exact h
  ·have hlen : i = l1.length := by have := hi.out; omega
   have hb0 : decide (i < l1.length) = false := decide_eq_false hlt
   have HLEN := Aside0.mk hlen
   clear hlen
   go_wp2
   go_ret
   refine ⟨_, rfl, ?_, HB.out⟩
   have ho := HO.out
   rw [HLEN.out, Nat.sub_self, List.replicate_zero, List.append_nil] at ho
   exact ho
theorem win_true {a b c : Int} (h : win a b c = true) : b ≤ a ∧ a ≤ c := by
 unfold win at h
 simp only [Bool.and_eq_true, decide_eq_true_eq] at h
 exact h
theorem Valid.run {every : Int} {fl : List S58} {st : List S56} {l : List S45} (h : Valid every fl st l) (n : Nat) (hn : n < l.length) :
  ((l.getD n z45).f1 = 1 ∨ (l.getD n z45).f1 = 2) ∧ (0 ≤ (l.getD n z45).f0 ∧ (l.getD n z45).f0 ≤ 1000000000) ∧ (0 < n → (l.getD (n - 1) z45).f0 ≤ (l.getD n z45).f0) ∧ entErr fl st (l.getD n z45) = 0 := by
 have hp : rd_T45 l ((n : Int) - 1) = l.getD (n - 1) z45 := by
  unfold rd_T45
  rw [show ((n : Int) - 1).toNat = n - 1 from by omega]
 have he : (if ¬ ((l.getD n z45).f1 = 1 ∨ (l.getD n z45).f1 = 2) then (1 : Int) else if win (l.getD n z45).f0 0 1000000000 = false then 1 else
  if 0 < n ∧ (rd_T45 l ((n : Int) - 1)).f0 > (l.getD n z45).f0 then 8 else entErr fl st (l.getD n z45)) = 0 := h.re n hn
 rw [hp] at he
 by_cases h1 : (l.getD n z45).f1 = 1 ∨ (l.getD n z45).f1 = 2
 ·rw [if_neg (fun h => h h1)] at he
  by_cases h2 : win (l.getD n z45).f0 0 1000000000 = false
  ·rw [if_pos h2] at he
   exact absurd he zq50
  ·rw [if_neg h2] at he
   by_cases h3 : 0 < n ∧ (l.getD (n - 1) z45).f0 > (l.getD n z45).f0
   ·rw [if_pos h3] at he
    exact absurd he zq50
   ·rw [if_neg h3] at he
    refine ⟨h1, win_true (by simpa using h2), fun h0 => ?_, he⟩
    simp only [not_and, gt_iff_lt, Int.not_lt] at h3
    exact h3 h0
 ·rw [if_pos h1] at he
  exact absurd he zq50
theorem entErr_zero {fl : List S58} {st : List S56} {x : S45} (h : entErr fl st x = 0) (hf : fl.length ≤ 8) (hs : st.length ≤ 4) : 0 ≤ x.f4 ∧ x.f4 ≤ 4 ∧ 0 ≤ x.f5 ∧ x.f5 ≤ 8 := by
 unfold entErr at h
 split at h
 ·split at h
  ·exact absurd h zq50
  ·split at h
   ·exact absurd h zq50
   ·split at h
    ·rename_i h4
     split at h
     ·rename_i h5
      omega
     ·exact absurd h zq50
    ·exact absurd h zq50
 ·split at h
  ·exact absurd h zq50
  ·rename_i h4
   split at h
   ·exact absurd h zq50
   ·rename_i h5
    have h4 := win_true (by simpa using h4)
    have h5 := win_true (by simpa using h5)
    omega
theorem Valid.times {every : Int} {fl : List S58} {st : List S56} {l : List S45} (h : Valid every fl st l) (n : Nat) : 0 ≤ (l.getD n z45).f0 ∧ (l.getD n z45).f0 ≤ 1000000000 := by
 by_cases hn : n < l.length
 ·exact (h.run n hn).2.1
 ·rw [List.getD_eq_getElem?_getD, List.getElem?_eq_none zq18]
  decide
theorem Valid.wf {every : Int} {fl : List S58} {st : List S56} {l : List S45} (h : Valid every fl st l) (n : Nat) : (Lit.int .i64 (l.getD n z45).f4).wf = true ∧ (Lit.int .i64 (l.getD n z45).f5).wf = true := by
 by_cases hn : n < l.length
 ·obtain ⟨h1, h2, h3, h4⟩ := entErr_zero (h.run n hn).2.2.2 h.n1 h.n2
  exact ⟨small_wf _ zq18 zq18, small_wf _ zq18 zq18⟩
 ·rw [List.getD_eq_getElem?_getD, List.getElem?_eq_none zq18]
  decide
theorem Valid.desk {every : Int} {fl : List S58} {st : List S56} {l : List S45} (h : Valid every fl st l) {w : World} {A0_1 : Option Addr} {c0_1 : Nat} {A0_2 : Option Addr} {c0_2 : Nat} {A1 : Option Addr} {c1 b : Nat} (r01 : Kd.C k58 w A0_1 fl.length fl) (h01 : fl.length ≤ c0_1) (r02 : Kd.C k56 w A0_2 st.length st) (h02 : st.length ≤ c0_2) (r1 : Kd.C k45 w A1 l.length l) (hd : DeskIs w b l) :
  Desk w A0_1 c0_1 fl A0_2 c0_2 st A1 c1 l b := ⟨r01, h01, r02, h02, r1, hd, h.len, h.n1, h.n2, h.times⟩
theorem opened_valid (a0_0 : Int) (A0_1 : Option Addr) (c0_1 : Nat) (l0_1 : List S58) (A0_2 : Option Addr) (c0_2 : Nat) (l0_2 : List S56) (A1 : Option Addr) (c1 : Nat) (l1 : List S45) (w : World)
  (hr0_1 : Kd.C k58 w A0_1 l0_1.length l0_1) (hc0_1 : l0_1.length ≤ c0_1) (hr0_2 : Kd.C k56 w A0_2 l0_2.length l0_2) (hc0_2 : l0_2.length ≤ c0_2) (hr1 : Kd.C k45 w A1 l1.length l1) (hv : Valid a0_0 l0_1 l0_2 l1) (W : World) (hW : Below w.heap.size w W) :
  Calls Try.prog 32 #[.agg #[.int .i64 a0_0, .slice A0_1 l0_1.length c0_1, .slice A0_2 l0_2.length c0_2], .slice A1 l1.length c1] W fun e w' =>
   ∃ b, e = .returned (.agg #[.int .i64 a0_0, .slice A0_1 l0_1.length c0_1, .slice A0_2 l0_2.length c0_2, .slice A1 l1.length c1, .map (some b)]) ∧ Desk w' A0_1 c0_1 l0_1 A0_2 c0_2 l0_2 A1 c1 l1 b ∧ Below W.heap.size W w' :=
 (inspect_opened.calls a0_0 A0_1 c0_1 l0_1 A0_2 c0_2 l0_2 A1 c1 l1 W (Kd.C_below hr1 hW) hv.len hv.wf).mono (by
  rintro e w' ⟨b, rfl, hg, hb⟩
  have hB := below_step hW hb
  exact ⟨b, rfl, hv.desk (Kd.C_below hr0_1 hB) hc0_1 (Kd.C_below hr0_2 hB) hc0_2 (Kd.C_below hr1 hB) ⟨_, hg⟩, hb⟩)
theorem checklog_plain (a0_0 : Int) (A0_1 : Option Addr) (c0_1 : Nat) (l0_1 : List S58) (A0_2 : Option Addr) (c0_2 : Nat) (l0_2 : List S56) (A1 : Option Addr) (c1 : Nat) (l1 : List S45) (w : World)
  (hr0_1 : Kd.C k58 w A0_1 l0_1.length l0_1) (hc0_1 : l0_1.length ≤ c0_1) (hr0_2 : Kd.C k56 w A0_2 l0_2.length l0_2) (hc0_2 : l0_2.length ≤ c0_2) (hr1 : Kd.C k45 w A1 l1.length l1) (hc1 : l1.length ≤ c1) (W : World) (hW : Below w.heap.size w W) :
  Calls Try.prog 19 #[.agg #[.int .i64 a0_0, .slice A0_1 l0_1.length c0_1, .slice A0_2 l0_2.length c0_2], .slice A1 l1.length c1] W fun e w' =>
   e = .returned (.int .i64 (logS a0_0 l0_1 l0_2 l1)) ∧ Below W.heap.size W w' :=
 inspect_CheckLog.calls 2000 a0_0 A0_1 c0_1 l0_1 A0_2 c0_2 l0_2 A1 c1 l1 (logS a0_0 l0_1 l0_2 l1) W (Kd.C_below hr0_1 hW) hc0_1 (Kd.C_below hr0_2 hW) hc0_2 (Kd.C_below hr1 hW) hc1 (CheckLog_eq a0_0 l0_1 l0_2 l1 2000 (Nat.le_refl _))
def judgeF (a0_0 : Int) (l0_1 : List S58) (l0_2 : List S56) (l1 : List S45) (a2 : Int) : Int × Int × Int :=
 if logS a0_0 l0_1 l0_2 l1 ≠ 0 then (0, 0, logS a0_0 l0_1 l0_2 l1) else if win a2 0 ((l1.length : Int) - 1) = false then (0, 0, 7) else if (rd_T45 l1 a2).f1 ≠ 1 then (0, 0, 1) else
 ((judgeS a0_0 l0_1 l0_2 l1 a2).1, (judgeS a0_0 l0_1 l0_2 l1 a2).2, 0)
def inspect_Judge.f (a0_0 : Int) (l0_1 : List S58) (l0_2 : List S56) (l1 : List S45) (a2 : Int) : Option (Int × Int × Int) := some (judgeF a0_0 l0_1 l0_2 l1 a2)
theorem within_plain (a b c : Int) (W : World) : Calls Try.prog 36 #[.int .i64 a, .int .i64 b, .int .i64 c] W fun e w' => e = .returned (.bool (win a b c)) ∧ ∃ nd, w' = W.drewN nd :=
 (inspect_within.calls a b c (win a b c) W (within_eq a b c)).mono (by rintro e w' ⟨rfl, ⟨nd, rfl⟩⟩; exact ⟨rfl, nd, rfl⟩)
theorem opn_class (v k : Int) (h : (v = 1 ∨ v = 2) ∧ k = -1 ∨ v = 0 ∨ v = 3) :
  ∃ t x f y, opn v k = .iface t x ∧ (∀ w : World, (method 279 t x "cullet/inspect.class").run Try.prog w = .ok (f, y) w) ∧ (∀ w : World, (callFunc f #[y]).run Try.prog w = .ok (.enter f #[y]) w) ∧ ∀ w, Calls Try.prog f #[y] w fun e w' => e = .returned (.int .i64 k) ∧ Below w.heap.size w w' := by
 rcases h with ⟨rfl | rfl, rfl⟩ | rfl | rfl
 ·exact ⟨128, .agg #[], 122, .agg #[], rfl, fun w => by kernel_rfl, fun w => by kernel_rfl, class128 0⟩
 ·exact ⟨129, .agg #[], 123, .agg #[], rfl, fun w => by kernel_rfl, fun w => by kernel_rfl, class129 0⟩
 ·exact ⟨132, .agg #[.int .i64 k], 125, .agg #[.int .i64 k], rfl, fun w => by kernel_rfl, fun w => by kernel_rfl, class132 k⟩
 ·exact ⟨131, .agg #[.int .i64 k], 124, .agg #[.int .i64 k], rfl, fun w => by kernel_rfl, fun w => by kernel_rfl, class131 k⟩
set_option maxHeartbeats 4000000 in
set_option maxRecDepth 100000 in
theorem inspect_Judge.calls (a0_0 : Int) (A0_1 : Option Addr) (c0_1 : Nat) (l0_1 : List S58) (A0_2 : Option Addr) (c0_2 : Nat) (l0_2 : List S56) (A1 : Option Addr) (c1 : Nat) (l1 : List S45) (a2 : Int) (r1 r2 r3 : Int) (w : World)
  (hr0_1 : Kd.C k58 w A0_1 l0_1.length l0_1) (hc0_1 : l0_1.length ≤ c0_1) (hr0_2 : Kd.C k56 w A0_2 l0_2.length l0_2) (hc0_2 : l0_2.length ≤ c0_2) (hr1 : Kd.C k45 w A1 l1.length l1) (hc1 : l1.length ≤ c1) (h : inspect_Judge.f a0_0 l0_1 l0_2 l1 a2 = some (r1, r2, r3)) :
  Calls Try.prog 21 #[.agg #[.int .i64 a0_0, .slice A0_1 l0_1.length c0_1, .slice A0_2 l0_2.length c0_2], .slice A1 l1.length c1, .int .i64 a2] w fun e w' =>
   e = .returned (.tuple #[.int .u8 r1, .int .i64 r2, .int .i64 r3]) ∧ Below w.heap.size w w' := by
 have hj : judgeF a0_0 l0_1 l0_2 l1 a2 = (r1, r2, r3) := Option.some.inj h
 clear h
 have hb1 := (Below.refl w.heap.size w).alloc (Nat.le_refl _) (.cells #[.int .i64 a0_0, .slice A0_1 l0_1.length c0_1, .slice A0_2 l0_2.length c0_2] 25)
 have hlog := checklog_plain a0_0 A0_1 c0_1 l0_1 A0_2 c0_2 l0_2 A1 c1 l1 w hr0_1 hc0_1 hr0_2 hc0_2 hr1 hc1 _ hb1
 have HB1 := Aside0.mk hb1
 have HC1 := Aside0.mk (blk_new w (.cells #[.int .i64 a0_0, .slice A0_1 l0_1.length c0_1, .slice A0_2 l0_2.length c0_2] 25))
 clear hb1
 unfold judgeF at hj
 by_cases h0 : logS a0_0 l0_1 l0_2 l1 = 0
 ·rw [if_neg (fun hh => hh h0)] at hj
  have hv := logS_valid h0
  have hop := opened_valid a0_0 A0_1 c0_1 l0_1 A0_2 c0_2 l0_2 A1 c1 l1 w hr0_1 hc0_1 hr0_2 hc0_2 hr1 hv
  rw [h0] at hlog
  have HLEN := Aside0.mk hv.len
  have HR1 := Aside0.mk hr1
  have hwp : wrap64 ((l1.length : Int) - 1) = (l1.length : Int) - 1 := wpred _ (by have := hv.len; omega)
  clear hr0_1 hr0_2 hr1 hv h0
  have hwn := within_plain a2 0 ((l1.length : Int) - 1)
  cases hw : win a2 0 ((l1.length : Int) - 1)
  ·rw [if_pos hw] at hj
   obtain ⟨rfl, rfl, rfl⟩ : 0 = r1 ∧ 0 = r2 ∧ 7 = r3 := by simpa using hj
   rw [hw] at hwn
   go_enter Try.func21, Try.ntmps21
   go_wp2_with (first
    | (go_at_call 19; (with_reducible refine hlog.mono ?_); rintro e w1 ⟨rfl, hb⟩; have HB2 := Aside0.mk (below_step HB1.out hb); clear hb)
    | (go_at_call 36; (with_reducible refine (hwn _).mono ?_); rintro e w2 ⟨rfl, nd, rfl⟩))
   go_ret3
   exact ⟨rfl, pw_below_drewN HB2.out _⟩
  ·rw [if_neg (by rw [hw]; decide)] at hj
   rw [hw] at hwn
   have hwt := win_true hw
   obtain ⟨ad, e, hx0, hx1, hx2, hx3, hx4, hx5, hx6⟩ := at_T45 HR1.out a2 hwt.1 zq18
   cases e
   have HX := Aside0.mk hx1
   clear hx0 hx1 hx2 hx3 hx4 hx5 hx6
   have g0 := eq_true hwt.1
   have g1 : a2 < (l1.length : Int) := by omega
   by_cases hk : (rd_T45 l1 a2).f1 = 1
   ·rw [if_neg (fun hh => hh hk)] at hj
    obtain ⟨h1, h2, rfl⟩ : (judgeS a0_0 l0_1 l0_2 l1 a2).1 = r1 ∧ (judgeS a0_0 l0_1 l0_2 l1 a2).2 = r2 ∧ 0 = r3 := by simpa using hj
    rw [hk] at HX
    have hjud := fun b W (hD : Desk W A0_1 c0_1 l0_1 A0_2 c0_2 l0_2 (some ad) c1 l1 b) => inspect_judged.calls a0_0 A0_1 c0_1 l0_1 A0_2 c0_2 l0_2 (some ad) c1 l1 b a2 W hD hwt.1 g1
    have hv4 := judgeS_v4 a0_0 l0_1 l0_2 l1 a2
    have hv3 := judgeS_v a0_0 l0_1 l0_2 l1 a2
    rw [h1, h2] at hjud hv3
    rw [h1] at hv4
    have hver := inspect_verdict.calls r1 r2
    have HV4 := Aside0.mk hv4
    obtain ⟨ti, xi, fi, yi, hop1, hme, hcf, hcl⟩ := opn_class r1 r2 hv3
    rw [hop1] at hjud hver
    clear hj h1 h2 hv4 hv3 hop1
    go_enter Try.func21, Try.ntmps21
    go_wp2_with (first
     | (go_at_call 19; (with_reducible refine hlog.mono ?_); rintro e w1 ⟨rfl, hb⟩; have HB2 := Aside0.mk (below_step HB1.out hb); have HC2 := Aside0.mk (blk_below HC1.out hb); have hx1 := (HB2.out.cell (World.block_lt_of_cell? w _ HX.out)).trans HX.out; have hc0 : ∀ n, (w1.drewN n).cell? ⟨w.heap.size, 0, none⟩ = some (.int .i64 a0_0) := fun n => (blk_cell HC2.out 0).trans rfl; have hc1' : ∀ n, (w1.drewN n).cell? ⟨w.heap.size, 1, none⟩ = some (.slice A0_1 l0_1.length c0_1) := fun n => (blk_cell HC2.out 1).trans rfl; have hc2 : ∀ n, (w1.drewN n).cell? ⟨w.heap.size, 2, none⟩ = some (.slice A0_2 l0_2.length c0_2) := fun n => (blk_cell HC2.out 2).trans rfl; clear hb)
     | (go_at_call 36; (with_reducible refine (hwn _).mono ?_); rintro e w2 ⟨rfl, nd, rfl⟩)
     | (go_at_call 32; (with_reducible refine (hop _ (pw_below_drewN HB2.out _)).mono ?_); rintro e w3 ⟨b, rfl, hD, hb⟩; have HB3 := Aside0.mk (below_step (pw_below_drewN HB2.out _) hb); have HDK := Aside0.mk hD; clear hb hD)
     | (go_at_call 50; (with_reducible refine (hjud _ _ HDK.out).mono ?_); rintro e w4 ⟨rfl, hb⟩; have HB4 := Aside0.mk (below_step HB3.out hb); clear hb)
     | (go_at_fn fi; (with_reducible refine (hcl _).mono ?_); rintro e w6 ⟨rfl, hb⟩; have HB6 := Aside0.mk (below_step HB4.out hb); clear hb)
     | (go_at_call 51; (with_reducible refine (hver _ HV4.out).mono ?_); rintro e w5 ⟨rfl, rfl⟩))
    go_ret3
    exact ⟨rfl, HB6.out⟩
   ·rw [if_pos hk] at hj
    obtain ⟨rfl, rfl, rfl⟩ : 0 = r1 ∧ 0 = r2 ∧ 1 = r3 := by simpa using hj
    have hkb : ((rd_T45 l1 a2).f1 == 1) = false := by simp [hk]
    go_enter Try.func21, Try.ntmps21
    go_wp2_with (first
     | (go_at_call 19; (with_reducible refine hlog.mono ?_); rintro e w1 ⟨rfl, hb⟩; have HB2 := Aside0.mk (below_step HB1.out hb); have hx1 := (HB2.out.cell (World.block_lt_of_cell? w _ HX.out)).trans HX.out; clear hb)
     | (go_at_call 36; (with_reducible refine (hwn _).mono ?_); rintro e w2 ⟨rfl, nd, rfl⟩))
    go_ret3
    exact ⟨rfl, pw_below_drewN HB2.out _⟩
 ·rw [if_pos h0] at hj
  obtain ⟨rfl, rfl, h3⟩ : 0 = r1 ∧ 0 = r2 ∧ logS a0_0 l0_1 l0_2 l1 = r3 := by simpa using hj
  rw [h3] at hlog h0
  have hb0 : (r3 == 0) = false := by simpa using h0
  clear hj h3 h0
  go_enter Try.func21, Try.ntmps21
  go_wp2_with (go_at_call 19; (with_reducible refine hlog.mono ?_); rintro e w1 ⟨rfl, hb⟩; have HB2 := Aside0.mk (below_step HB1.out hb); clear hb)
  go_ret3
  exact ⟨rfl, HB2.out⟩
theorem verdP_get (every : Int) (fl : List S58) (st : List S56) (l : List S45) : ∀ n i, i < n → (verdP every fl st l n).getD i 0 = vdS every fl st l i
 | 0, i, h => by omega
 | n + 1, i, h => by
  unfold verdP
  by_cases hi : i = n
  ·subst hi
   rw [List.getD_eq_getElem?_getD, List.getElem?_append_right (by rw [verdP_len]; exact Nat.le_refl _), verdP_len]
   simp
  ·rw [List.getD_eq_getElem?_getD, List.getElem?_append_left (by rw [verdP_len]; omega), ← List.getD_eq_getElem?_getD]
   exact verdP_get every fl st l n i zq18
def posP (every : Int) (fl : List S58) (st : List S56) (l : List S45) (v : Int) : Nat → List Int
 | 0 => []
 | n + 1 => if vdS every fl st l n = v then posP every fl st l v n ++ [(n : Int)] else posP every fl st l v n
theorem posP_len (every : Int) (fl : List S58) (st : List S56) (l : List S45) (v : Int) : ∀ n, (posP every fl st l v n).length ≤ n
 | 0 => by simp [posP]
 | n + 1 => by
  have := posP_len every fl st l v n
  unfold posP
  split
  ·simp; omega
  ·omega
def blockedF (a0_0 : Int) (l0_1 : List S58) (l0_2 : List S56) (l1 : List S45) : List Int × Int :=
 if logS a0_0 l0_1 l0_2 l1 ≠ 0 then ([], logS a0_0 l0_1 l0_2 l1) else (posP a0_0 l0_1 l0_2 l1 3 l1.length, 0)
def inspect_Blocked.f (a0_0 : Int) (l0_1 : List S58) (l0_2 : List S56) (l1 : List S45) : Option (List Int × Int) := some (blockedF a0_0 l0_1 l0_2 l1)
set_option maxHeartbeats 4000000 in
set_option maxRecDepth 100000 in
theorem inspect_Blocked.calls (a0_0 : Int) (A0_1 : Option Addr) (c0_1 : Nat) (l0_1 : List S58) (A0_2 : Option Addr) (c0_2 : Nat) (l0_2 : List S56) (A1 : Option Addr) (c1 : Nat) (l1 : List S45) (r1 : List Int) (r2 : Int) (w : World)
  (hr0_1 : Kd.C k58 w A0_1 l0_1.length l0_1) (hc0_1 : l0_1.length ≤ c0_1) (hr0_2 : Kd.C k56 w A0_2 l0_2.length l0_2) (hc0_2 : l0_2.length ≤ c0_2) (hr1 : Kd.C k45 w A1 l1.length l1) (hc1 : l1.length ≤ c1) (h : inspect_Blocked.f a0_0 l0_1 l0_2 l1 = some (r1, r2)) :
  Calls Try.prog 12 #[.agg #[.int .i64 a0_0, .slice A0_1 l0_1.length c0_1, .slice A0_2 l0_2.length c0_2], .slice A1 l1.length c1] w fun e w' =>
   ∃ v0_ : Value, e = .returned (.tuple #[v0_, .int .i64 r2]) ∧ Kd.R (Kd.int .i64) 3 w' w.heap.size (fun _ => True) v0_ r1 ∧ Below w.heap.size w w' := by
 have hj : blockedF a0_0 l0_1 l0_2 l1 = (r1, r2) := Option.some.inj h
 clear h
 have hb1 := (Below.refl w.heap.size w).alloc (Nat.le_refl _) (.cells #[.int .i64 a0_0, .slice A0_1 l0_1.length c0_1, .slice A0_2 l0_2.length c0_2] 25)
 have hlog := checklog_plain a0_0 A0_1 c0_1 l0_1 A0_2 c0_2 l0_2 A1 c1 l1 w hr0_1 hc0_1 hr0_2 hc0_2 hr1 hc1 _ hb1
 have HB1 := Aside0.mk hb1
 have HC1 := Aside0.mk (blk_new w (.cells #[.int .i64 a0_0, .slice A0_1 l0_1.length c0_1, .slice A0_2 l0_2.length c0_2] 25))
 clear hb1
 unfold blockedF at hj
 by_cases h0 : logS a0_0 l0_1 l0_2 l1 = 0
 ·rw [if_neg (fun hh => hh h0)] at hj
  obtain ⟨rfl, rfl⟩ : posP a0_0 l0_1 l0_2 l1 3 l1.length = r1 ∧ 0 = r2 := by simpa using hj
  have hv := logS_valid h0
  have hop := opened_valid a0_0 A0_1 c0_1 l0_1 A0_2 c0_2 l0_2 A1 c1 l1 w hr0_1 hc0_1 hr0_2 hc0_2 hr1 hv
  have hvd := fun b W (hD : Desk W A0_1 c0_1 l0_1 A0_2 c0_2 l0_2 A1 c1 l1 b) => inspect_verdicts.calls a0_0 A0_1 c0_1 l0_1 A0_2 c0_2 l0_2 A1 c1 l1 b W hD
  rw [h0] at hlog
  have HLEN := Aside0.mk hv.len
  clear hr0_1 hr0_2 hr1 hv h0 hj
  go_enter Try.func12, Try.ntmps12
  go_wp2_with (first
   | (go_at_call 19; (with_reducible refine hlog.mono ?_); rintro e w1 ⟨rfl, hb⟩; have HB2 := Aside0.mk (below_step HB1.out hb); have HC2 := Aside0.mk (blk_below HC1.out hb); have hc00 : w1.cell? ⟨w.heap.size, 0, none⟩ = some (.int .i64 a0_0) := (blk_cell HC2.out 0).trans rfl; have hc01 : w1.cell? ⟨w.heap.size, 1, none⟩ = some (.slice A0_1 l0_1.length c0_1) := (blk_cell HC2.out 1).trans rfl; have hc02 : w1.cell? ⟨w.heap.size, 2, none⟩ = some (.slice A0_2 l0_2.length c0_2) := (blk_cell HC2.out 2).trans rfl; clear hb)
   | (go_at_call 32; (with_reducible refine (hop _ HB2.out).mono ?_); rintro e w3 ⟨b, rfl, hD, hb⟩; have HB3 := Aside0.mk (below_step HB2.out hb); have HDK := Aside0.mk hD; clear hb hD)
   | (go_at_call 33; (with_reducible refine (hvd _ _ HDK.out).mono ?_); rintro e w4 ⟨g, rfl, ho, hb⟩; have HB4 := Aside0.mk (below_step HB3.out hb); have HO4 := Aside0.mk (own_weaken ho HB3.out.size); clear hb ho))
  go_loopg [7, 21] l1.length (fun gg s7 s21 wr => ∃ (i : Nat) (v7 : Value), s21 = .int .i64 (i : Int) ∧ v7 = s7 ∧ Aside0 (i ≤ l1.length ∧ l1.length - i ≤ gg) ∧ Aside0 (Below w.heap.size w wr) ∧
   Aside0 (wr.ownsRow w.heap.size 46 1 (.slice (some ⟨g, 0, none⟩) l1.length l1.length) l1.length (nums .u8 (verdP a0_0 l0_1 l0_2 l1 l1.length))) ∧
   Aside0 (Kd.R (Kd.int .i64) 3 wr w.heap.size (fun _ => True) v7 (posP a0_0 l0_1 l0_2 l1 3 i)))
  case atStart => exact ⟨0, _, rfl, rfl, ⟨zq18, zq18⟩, HB4, HO4, ⟨Kd.R_nil _ _ _ _ _⟩⟩
  case round =>
   obtain ⟨i, v7, rfl, rfl, hi, HB, HO, HR⟩ := hrel
   by_cases hlt : i < l1.length
   ·have hlt' : (i : Int) < (l1.length : Int) := by omega
    have hb0 : decide (i < l1.length) = true := decide_eq_true hlt
    have hq0 : 0 ≤ (i : Int) := by omega
    have hq1 : (i : Int) ≤ 511 := by have := HLEN.out; omega
    have hca := (own_at HO.out (i : Int) hq0 hlt').1
    have hg : rd (verdP a0_0 l0_1 l0_2 l1 l1.length) (i : Int) = vdS a0_0 l0_1 l0_2 l1 i := by
     have := verdP_get a0_0 l0_1 l0_2 l1 l1.length i hlt
     unfold rd
     rw [Int.toNat_natCast]
     exact this
    rw [hg, Int.toNat_natCast] at hca
    clear hg
    have hpos : posP a0_0 l0_1 l0_2 l1 3 (i + 1) = if vdS a0_0 l0_1 l0_2 l1 i = 3 then posP a0_0 l0_1 l0_2 l1 3 i ++ [(i : Int)] else posP a0_0 l0_1 l0_2 l1 3 i := rfl
    have hlenp := posP_len a0_0 l0_1 l0_2 l1 3 i
    generalize vdS a0_0 l0_1 l0_2 l1 i = t at hca hpos
    have HP := Aside0.mk hpos
    have HLP := Aside0.mk hlenp
    clear hpos hlenp
    by_cases ht : t = 3
    ·subst ht
     have HO5 := Aside0.mk (own_move (w1 := wr.alloc (.cells #[.int .i64 (i : Int)] 3)) HO.out (fun k hk => Below.heap_alloc _ _ k (own_lt HO.out k hk)))
     go_wp2_with (((with_reducible refine gate_dst (N := 31) rfl ?_); go_must (refine Kd.R_append (Kd.int .i64) (w0 := w) (W := wr) w.heap.size rfl (.tmp 28) (.tmp 30) 29 3 (.int .i64 0) 8 rfl Try.underlying29 info3 rfl zq50 zq18 v7 (posP a0_0 l0_1 l0_2 l1 3 i) (i : Int) [.int .i64 (i : Int)] (fun _ => True) (fun _ => False) rfl rfl rfl (fun _ hk => hk.elim) (fun _ _ => trivial) HR.out HB.out HB.out.size ?aL ?_); (case aL => have := HLP.out; have := HLEN.out; omega); intro v1 w1 ho hb hg hat; have HR1 := Aside0.mk ho; have HB5 := Aside0.mk hb; have HOW := Aside0.mk (own_other HO.out hg (by obtain ⟨inner, hin⟩ := Kd.R_own HR.out; exact own_type_ne HO.out hin zq50)); clear ho hb hg hat))
     go_roundg (l1.length - (i + 1))
     case measure => have := hi.out; omega
     case rel => exact ⟨i + 1, _, zq54, rfl, ⟨zq18⟩, HB5, HOW, ⟨by rw [HP.out, if_pos trivial]; exact HR1.out⟩⟩
    ·have hbt : (t == 3) = false := by simpa using ht
     have HT := Aside0.mk ht
     clear ht
     go_wp2
     go_roundg (l1.length - (i + 1))
     case measure => have := hi.out; omega
     case rel => exact ⟨i + 1, _, zq54, rfl, ⟨zq18⟩, HB, HO, ⟨by rw [HP.out, if_neg HT.out]; exact HR.out⟩⟩
   ·have hlen : i = l1.length := by have := hi.out; omega
    have hb0 : decide (i < l1.length) = false := decide_eq_false hlt
    have HLN := Aside0.mk hlen
    clear hlen
    go_wp2
    go_ret2
    exact ⟨_, rfl, by rw [← HLN.out]; exact HR.out, HB.out⟩
 ·rw [if_pos h0] at hj
  obtain ⟨rfl, h3⟩ : [] = r1 ∧ logS a0_0 l0_1 l0_2 l1 = r2 := by simpa using hj
  rw [h3] at hlog h0
  have hb0 : (r2 == 0) = false := by simpa using h0
  clear hj h3 h0
  go_enter Try.func12, Try.ntmps12
  go_wp2_with (go_at_call 19; (with_reducible refine hlog.mono ?_); rintro e w1 ⟨rfl, hb⟩; have HB2 := Aside0.mk (below_step HB1.out hb); clear hb)
  go_ret2
  exact ⟨_, rfl, Kd.R_nil _ _ _ _ _, HB2.out⟩
set_option maxHeartbeats 4000000 in
set_option maxRecDepth 100000 in
theorem inspect_lowest.calls (n d : Nat) (w : World) (hd : 0 < d) (hn : n ≤ 1000000000000) (hd2 : d ≤ 1000000000000) :
  Calls Try.prog 39 #[.int .i64 (n : Int), .int .i64 (d : Int)] w fun e w' => e = .returned (.agg #[.int .i64 ((n / Nat.gcd n d : Nat) : Int), .int .i64 ((d / Nat.gcd n d : Nat) : Int)]) ∧ Below w.heap.size w w' := by
 have HX := Aside0.mk (blk_new w (.cells #[.int .i64 0, .int .i64 0] 35))
 have HB := Aside0.mk ((Below.refl w.heap.size w).alloc (Nat.le_refl _) (.cells #[.int .i64 0, .int .i64 0] 35))
 have HD := Aside0.mk hd
 clear hd
 go_enter Try.func39, Try.ntmps39
 go_wp2
 go_loopg [5, 6] d (fun gg s5 s6 wr => ∃ a b : Nat, s5 = .int .i64 (a : Int) ∧ s6 = .int .i64 (b : Int) ∧ Aside0 (b ≤ gg ∧ a ≤ 1000000000000 ∧ b ≤ 1000000000000 ∧ Nat.gcd a b = Nat.gcd n d ∧ (0 < a ∨ 0 < b)) ∧ Aside0 (Below w.heap.size w wr) ∧
  Aside0 (wr.heap[w.heap.size]? = some (.cells #[.int .i64 0, .int .i64 0] 35 (0, 0))))
 case atStart => exact ⟨n, d, rfl, rfl, ⟨zq18, hn, hd2, rfl, .inr HD.out⟩, HB, HX⟩
 case round =>
  obtain ⟨a, b, rfl, rfl, hi, HB, HX⟩ := hrel
  by_cases hb : b = 0
  ·subst hb
   have hg : a = Nat.gcd n d := by have := hi.out.2.2.2.1; rwa [Nat.gcd_zero_right] at this
   have ha : 0 < a := by have := hi.out.2.2.2.2; omega
   have hq1 : Int.tdiv (n : Int) (a : Int) = ((n / a : Nat) : Int) := by rw [Int.tdiv_eq_ediv_of_nonneg zq18]; rfl
   have hq2 : Int.tdiv (d : Int) (a : Int) = ((d / a : Nat) : Int) := by rw [Int.tdiv_eq_ediv_of_nonneg zq18]; rfl
   have hb1 : n / a ≤ 1000000000000 := Nat.le_trans (Nat.div_le_self _ _) hn
   have hb2 : d / a ≤ 1000000000000 := Nat.le_trans (Nat.div_le_self _ _) hd2
   have HE := Aside0.mk (show n / Nat.gcd n d = n / a ∧ d / Nat.gcd n d = d / a by rw [← hg]; exact ⟨rfl, rfl⟩)
   generalize n / a = x at hq1 hb1 HE
   generalize d / a = y at hq2 hb2 HE
   have hw1 : IntKind.i64.wrap (x : Int) = (x : Int) := Go.IntWalk.i64_in _ zq18
   have hw2 : IntKind.i64.wrap (y : Int) = (y : Int) := Go.IntWalk.i64_in _ zq18
   have x0 := (blk_cell HX.out 0).trans (rfl : _ = some (Value.int .i64 0))
   have x1 := (blk_cell HX.out 1).trans (rfl : _ = some (Value.int .i64 0))
   have f0 := blk_frozen HX.out 0
   have f1 := blk_frozen HX.out 1
   have ha0 : ((a : Int) == 0) = false := by simp; omega
   have ha1 : (a : Int) ≠ 0 := by omega
   clear hg hn hd2
   go_wp2
   go_region
   go_wp2
   have e1 := blk_put (cs' := #[.int .i64 (x : Int), .int .i64 0]) HX.out 0 (.int .i64 (x : Int)) rfl
   have e2 := blk_put (cs' := #[.int .i64 (x : Int), .int .i64 (y : Int)]) e1 1 (.int .i64 (y : Int)) rfl
   refine bodyPost_ret (results_cell_row rfl _ _ w.heap.size 35 #[.int .i64 (x : Int), .int .i64 (y : Int)] (0, 0) _ rfl (blk_drew e2) Try.underlying35 rfl zq26) rfl ⟨by rw [HE.out.1, HE.out.2], ?_⟩
   exact ((HB.out.setCell (p := ⟨w.heap.size, 0, none⟩) zq51 _).setCell (p := ⟨w.heap.size, 1, none⟩) zq51 _).drew
  ·have hbb : ((b : Int) == 0) = false := by simp; omega
   have hb1 : (b : Int) ≠ 0 := by omega
   have hr : Int.tmod (a : Int) (b : Int) = ((a % b : Nat) : Int) := by rw [Int.tmod_eq_emod_of_nonneg zq18]; rfl
   have hlt : a % b < b := Nat.mod_lt _ zq18
   have hw : IntKind.i64.wrap ((a % b : Nat) : Int) = ((a % b : Nat) : Int) := Go.IntWalk.i64_in _ zq57
   have hg : Nat.gcd b (a % b) = Nat.gcd n d := by rw [← hi.out.2.2.2.1, Nat.gcd_comm b, ← Nat.gcd_rec, Nat.gcd_comm]
   generalize a % b = c at *
   go_wp2
   go_quiet (fail)
   go_wp2
   go_roundg c
   case measure => have := hi.out; omega
   case rel => exact ⟨b, c, rfl, rfl, ⟨Nat.le_refl _, zq57, zq57, hg, .inl zq18⟩, ⟨pw_below_drewN HB.out _⟩, ⟨blk_drewN HX.out _⟩⟩
set_option maxHeartbeats 4000000 in
set_option maxRecDepth 100000 in
theorem inspect_less.calls (n d m e : Nat) (w : World) (hn : n ≤ 1000000000000) (hd : d ≤ 1000000000000) (hm : m ≤ 1000000000000) (he : e ≤ 1000000000000) :
  Calls Try.prog 40 #[.agg #[.int .i64 (n : Int), .int .i64 (d : Int)], .agg #[.int .i64 (m : Int), .int .i64 (e : Int)]] w fun e_ w' => e_ = .returned (.bool (decide (n * e < m * d))) ∧ Below w.heap.size w w' := by
 have c1 := Try.bits_Mul64 n e zq18 zq18
 have c2 := Try.bits_Mul64 m d zq18 zq18
 have HB := Aside0.mk (((Below.refl w.heap.size w).alloc (Nat.le_refl _) (.cells #[.int .i64 (n : Int), .int .i64 (d : Int)] 35)).alloc zq51 (.cells #[.int .i64 (m : Int), .int .i64 (e : Int)] 35))
 have hx1 : n * e / 18446744073709551616 * 18446744073709551616 + n * e % 18446744073709551616 = n * e := Nat.div_add_mod' _ _
 have hx2 : m * d / 18446744073709551616 * 18446744073709551616 + m * d % 18446744073709551616 = m * d := Nat.div_add_mod' _ _
 have hl1 : n * e % 18446744073709551616 < 18446744073709551616 := Nat.mod_lt _ zq50
 have hl2 : m * d % 18446744073709551616 < 18446744073709551616 := Nat.mod_lt _ zq50
 generalize n * e / 18446744073709551616 = a1 at c1 hx1
 generalize n * e % 18446744073709551616 = b1 at c1 hx1 hl1
 generalize m * d / 18446744073709551616 = a2 at c2 hx2
 generalize m * d % 18446744073709551616 = b2 at c2 hx2 hl2
 rw [← hx1, ← hx2]
 have k1 : (convert 3 114 (.int .i64 (n : Int))) = (convert 3 114 (.int .i64 (n : Int))) := rfl
 have hans : decide (a1 * 18446744073709551616 + b1 < a2 * 18446744073709551616 + b2) = (decide (a1 < a2) || (decide (a1 = a2) && decide (b1 < b2))) := by
  by_cases h1 : a1 < a2
  ·simp [h1]; omega
  ·by_cases h2 : a1 = a2
   ·subst h2; simp
   ·simp [h1, h2]; omega
 rw [hans]
 clear hans hx1 hx2 hl1 hl2
 go_enter Try.func40, Try.ntmps40
 go_wp2_with (first | (go_at_call 65; (with_reducible refine (c1 _).mono ?_); rintro e w1 ⟨rfl, rfl⟩) | (go_at_call 65; (with_reducible refine (c2 _).mono ?_); rintro e w1 ⟨rfl, rfl⟩))
 all_goals (go_ret; refine ⟨?_, HB.out⟩; by_cases h1 : a1 < a2 <;> by_cases h2 : a1 = a2 <;> by_cases h3 : b1 < b2 <;> simp_all <;> omega)
def clmV (st : List S56) (s k : Int) : S68 := rd_T68 (rd_T56 st s).f1 (idxOf (fun x : S68 => x.f0 == k) (rd_T56 st s).f1)
theorem claim_val (a0 : Int) (fl : List S58) (st : List S56) (s k : Int) (h0 : 0 ≤ s) (h1 : s < st.length) (hc : clmB st s k = true) : inspect_claim.f a0 fl st s k = some ((clmV st s k).f0, (clmV st s k).f1, (clmV st s k).f2, true) := by
 unfold inspect_claim.f IdxClaim.f clmV
 unfold clmB at hc
 rw [if_pos h0, if_pos h1]
 simp only [Option.bind_some]
 have h2 := idxOf_any (fun x : S68 => x.f0 == k) (rd_T56 st s).f1
 have h3 := idxOf_lo (fun x : S68 => x.f0 == k) (rd_T56 st s).f1
 rw [hc] at h2
 have h4 := of_decide_eq_true h2
 rw [if_neg zq18, if_pos h4, if_pos h3.2]
theorem trU_claim {every : Int} {st : List S56} {l : List S45} {s k entry : Int} (h : trU every st l s k entry = 1) : clmB st s k = true := by
 unfold trU trustS at h
 cases hc : clmB st s k
 ·rw [hc, if_pos rfl] at h
  exact absurd h zq50
 ·rfl
theorem Valid.claim {every : Int} {fl : List S58} {st : List S56} {l : List S45} (h : Valid every fl st l) {s k : Int} (h0 : 0 ≤ s) (h1 : s < st.length) (hc : clmB st s k = true) : 0 ≤ (clmV st s k).f1 ∧ (clmV st s k).f1 ≤ (clmV st s k).f2 ∧ 1 ≤ (clmV st s k).f2 ∧ (clmV st s k).f2 ≤ 1000 := by
 have hs := h.se s.toNat zq18
 have hcast : ((s.toNat : Nat) : Int) = s := by omega
 unfold standErr at hs
 rw [hcast] at hs
 split at hs
 ·exact absurd hs zq50
 ·split at hs
  ·exact absurd hs zq50
  ·unfold claimsS at hs
   split at hs
   ·exact absurd hs zq50
   ·have h2 := idxOf_any (fun x : S68 => x.f0 == k) (rd_T56 st s).f1
    have h3 := idxOf_lo (fun x : S68 => x.f0 == k) (rd_T56 st s).f1
    unfold clmB at hc
    rw [hc] at h2
    have h4 := of_decide_eq_true h2
    have h5 := firstErr_zero _ _ _ hs (idxOf (fun x : S68 => x.f0 == k) (rd_T56 st s).f1).toNat zq18 zq18
    unfold claimErr at h5
    rw [show (((idxOf (fun x : S68 => x.f0 == k) (rd_T56 st s).f1).toNat : Nat) : Int) = idxOf (fun x : S68 => x.f0 == k) (rd_T56 st s).f1 from by omega] at h5
    unfold clmV
    split at h5
    ·exact absurd h5 zq50
    ·split at h5
     ·exact absurd h5 zq50
     ·split at h5
      ·exact absurd h5 zq50
      ·rename_i h6
       split at h5
       ·exact absurd h5 zq50
       ·rename_i h7
        have h6 := win_true (by simpa using h6)
        have h7 := win_true (by simpa using h7)
        omega
def shareP (every : Int) (st : List S56) (l : List S45) (k entry : Int) : Nat → Nat × Nat
 | 0 => (1, 1)
 | j + 1 =>
  let p := shareP every st l k entry j
  if trU every st l j k entry = 1 then
   let a := p.1 * (clmV st j k).f1.toNat
   let b := p.2 * (clmV st j k).f2.toNat
   (a / Nat.gcd a b, b / Nat.gcd a b)
  else p
theorem shareP_bound {every : Int} {fl : List S58} {st : List S56} {l : List S45} (h : Valid every fl st l) (k entry : Int) : ∀ j, j ≤ st.length → (shareP every st l k entry j).1 ≤ 1000 ^ j ∧ (shareP every st l k entry j).2 ≤ 1000 ^ j ∧ 0 < (shareP every st l k entry j).2
 | 0, _ => by simp [shareP]
 | j + 1, hj => by
  obtain ⟨h1, h2, h3⟩ := shareP_bound h k entry j zq18
  have hp : 1000 ^ (j + 1) = 1000 ^ j * 1000 := Nat.pow_succ ..
  unfold shareP
  by_cases ht : trU every st l j k entry = 1
  ·simp only [ht, if_true]
   obtain ⟨c1, c2, c3, c4⟩ := h.claim (s := j) (k := k) zq18 zq18 (trU_claim ht)
   have hb : 0 < (shareP every st l k entry j).2 * (clmV st j k).f2.toNat := Nat.mul_pos h3 zq18
   refine ⟨?_, ?_, Nat.div_pos (Nat.gcd_le_right _ hb) (Nat.gcd_pos_of_pos_right _ hb)⟩
   ·refine Nat.le_trans (Nat.div_le_self _ _) ?_
    rw [hp]
    exact Nat.mul_le_mul h1 zq18
   ·refine Nat.le_trans (Nat.div_le_self _ _) ?_
    rw [hp]
    exact Nat.mul_le_mul h2 zq18
  ·simp only [ht, if_false]
   rw [hp]
   omega
def missP (every : Int) (fl : List S58) (st : List S56) (l : List S45) (k : Int) : Nat → Nat × Nat × Nat
 | 0 => (0, 1, 0)
 | n + 1 =>
  let p := missP every fl st l k n
  if vdS every fl st l n = 2 then
   let s := shareP every st l k n st.length
   if p.1 * s.2 < s.1 * p.2.1 then (s.1, s.2, p.2.2 + 1) else (p.1, p.2.1, p.2.2 + 1)
  else p
theorem pow4 {j : Nat} (h : j ≤ 4) : 1000 ^ j ≤ 1000000000000 := by
 have : 1000 ^ j ≤ 1000 ^ 4 := Nat.pow_le_pow_right zq50 h
 simpa using this
theorem missP_bound {every : Int} {fl : List S58} {st : List S56} {l : List S45} (h : Valid every fl st l) (k : Int) : ∀ n, (missP every fl st l k n).1 ≤ 1000000000000 ∧ (missP every fl st l k n).2.1 ≤ 1000000000000 ∧ 0 < (missP every fl st l k n).2.1 ∧ (missP every fl st l k n).2.2 ≤ n
 | 0 => by simp [missP]
 | n + 1 => by
  obtain ⟨h1, h2, h3, h4⟩ := missP_bound h k n
  obtain ⟨s1, s2, s3⟩ := shareP_bound h k n st.length (Nat.le_refl _)
  have hp := pow4 h.n2
  unfold missP
  by_cases hv : vdS every fl st l n = 2
  ·simp only [hv, if_true]
   split
   ·simp only; omega
   ·simp only; omega
  ·simp only [hv, if_false]
   omega
def missF (a0_0 : Int) (l0_1 : List S58) (l0_2 : List S56) (l1 : List S45) (a2 : Int) : Int × Int × Int × Int :=
 if logS a0_0 l0_1 l0_2 l1 ≠ 0 then (0, 0, 0, logS a0_0 l0_1 l0_2 l1) else if win a2 0 ((l0_1.length : Int) - 1) = false then (0, 0, 0, 7) else
 (((missP a0_0 l0_1 l0_2 l1 a2 l1.length).1 : Nat), ((missP a0_0 l0_1 l0_2 l1 a2 l1.length).2.1 : Nat), ((missP a0_0 l0_1 l0_2 l1 a2 l1.length).2.2 : Nat), 0)
def inspect_Missed.f (a0_0 : Int) (l0_1 : List S58) (l0_2 : List S56) (l1 : List S45) (a2 : Int) : Option (Int × Int × Int × Int) := some (missF a0_0 l0_1 l0_2 l1 a2)
theorem DeskIs.setCell {W : World} {b : Nat} {l : List S45} (h : DeskIs W b l) {g : Nat} {cs : Array Value} {t : TypeId} {fr : Nat × Nat} (hg : W.heap[g]? = some (.cells cs t fr)) (ht : t ≠ 3) (j : Nat) (v : Value) : DeskIs (W.setCell ⟨g, j, none⟩ v) b l := by
 obtain ⟨base, es, clock, h1, h2, h3, h4, h5⟩ := h
 have hbg : b ≠ g := fun e => by rw [← e, h1] at hg; cases hg
 refine ⟨base, es, clock, (Below.heap_setCell W ⟨g, j, none⟩ v b hbg).trans h1, h2, fun x hx => ?_, h4, h5⟩
 obtain ⟨a1, a2, a3⟩ := h3 x hx
 exact ⟨a1, a2, own_move a3 (fun k hk => Below.heap_setCell W ⟨g, j, none⟩ v k (fun e => own_ne_cells a3 hg ht (by rw [hk, e])))⟩
def isCh (l : List S45) (s c : Int) (n : Nat) : Prop := (l.getD n z45).f1 = 2 ∧ (l.getD n z45).f4 = s ∧ (l.getD n z45).f5 = c
instance (l : List S45) (s c : Int) (n : Nat) : Decidable (isCh l s c n) := by unfold isCh; infer_instance
end Go.Proofs.Ytbpebehbfpgjbaa.P
end
section
namespace Go.Proofs.Ytbpebehbfpgjbaa.P
open Go.RowKit Go.Proofs.YtbpebehbfpgjbaaW.PrintWords Go.Proofs.YtbpebehbfpgjbaaW.PrintLast Go.Proofs.YtbpebehbfpgjbaaW.PrintMore
attribute [local go_sem] max2_int min2_int max_two min_two max_three min_three max_four min_four
set_option linter.unusedVariables false
set_option linter.unusedSimpArgs false
def culletlaw07_has.l0 : Nat → List Int → Int → Int → Option (Bool)
 | 0, _, _, _ => none
 | k + 1, x0, x1, x5 => if x5 < (x0.length : Int) then (if 0 ≤ x5 then (if (rd x0 x5) = x1 then (some true) else (culletlaw07_has.l0 k x0 x1 (wrap64 (x5 + 1)))) else (none)) else (some false)
def culletlaw07_has.f (k : Nat) (l0 : List Int) (a1 : Int) : Option (Bool) := culletlaw07_has.l0 k l0 a1 0
set_option maxHeartbeats 8000000 in
set_option maxRecDepth 100000 in
theorem culletlaw07_has.calls (k : Nat) (A0 : Option Addr) (c0 : Nat) (l0 : List Int) (a1 : Int) (r : Bool) (w : World) (hr0 : Kd.C (Kd.int .i64) w A0 l0.length l0) (hc0 : l0.length ≤ c0) (h : culletlaw07_has.f k l0 a1 = some r) :
  Calls Try.prog 24 #[.slice A0 l0.length c0, .int .i64 a1] w fun e w' => e = .returned (.bool r) ∧ Drawn0 w w' := by
 have HR0 := Aside0.mk hr0
 have HC0 := Aside0.mk hc0
 clear hr0 hc0
 have H : (culletlaw07_has.l0 k l0 a1 0) = some r := h
 clear h
 have H' := Aside0.mk H
 clear H
 go_enter Try.func24, Try.ntmps24
 go_wp2
 go_loopg [5] k (fun kq v5 w' => ∃ (x5_1 : Int), v5 = .int .i64 x5_1 ∧ Aside0 (culletlaw07_has.l0 kq l0 a1 x5_1 = some r) ∧ Aside0 (kq ≤ k) ∧ Drawn0 w w')
 case atStart => exact ⟨(0), zq20, H', ⟨Nat.le_refl _⟩, zq21⟩
 case round =>
  clear H'
  try clear c2
  try clear p2
  obtain ⟨x5_1, rfl, HA, HK1, ⟨m1, rfl⟩⟩ := hrel
  cases gk with
  | zero => exact absurd HA.out (by simp [culletlaw07_has.l0])
  | succ k1 =>
   have H := HA.out
   clear HA
   simp only [culletlaw07_has.l0] at H
   by_cases c3 : x5_1 < (l0.length : Int)
   ·rw [if_pos c3] at H
    have c3b0 : decide (x5_1 < (l0.length : Int)) = true := decide_eq_true c3
    clear c3
    by_cases c4 : 0 ≤ x5_1
    ·rw [if_pos c4] at H
     have c4b0 : decide (0 ≤ x5_1) = true := decide_eq_true c4
     clear c4
     by_cases c5 : (rd l0 x5_1) = a1
     ·rw [if_pos c5] at H
      have c5b0 : ((rd l0 x5_1) == a1) = true := beq_iff_eq.mpr c5
      have c5b1 : ((rd l0 x5_1) != a1) = false := bne_eq_false_iff_eq.mpr c5
      clear c5
      obtain rfl := Option.some.inj H
      have p456 : 0 ≤ (x5_1 : Int) := of_decide_eq_true zq5
      have q456 : x5_1 < (l0.length : Int) := of_decide_eq_true zq5
      obtain ⟨ad456, e456, hx456_0⟩ := Kd.at_int HR0.out x5_1 p456 q456
      cases e456
      replace p456 := eq_true p456
      replace q456 := eq_true q456
      go_wp2
      go_ret
      exact ⟨zq20, zq21⟩
     ·rw [if_neg c5] at H
      have c5b0 : ((rd l0 x5_1) == a1) = false := beq_eq_false_iff_ne.mpr c5
      have c5b1 : ((rd l0 x5_1) != a1) = true := bne_iff_ne.mpr c5
      have H' := Aside0.mk H
      clear H
      have p456 : 0 ≤ (x5_1 : Int) := of_decide_eq_true zq5
      have q456 : x5_1 < (l0.length : Int) := of_decide_eq_true zq5
      obtain ⟨ad456, e456, hx456_0⟩ := Kd.at_int HR0.out x5_1 p456 q456
      cases e456
      replace p456 := eq_true p456
      replace q456 := eq_true q456
      go_wp2
      go_roundg k1
      case measure => have := HK1.out; omega
      case rel => exact ⟨(wrap64 (x5_1 + 1)), zq20, H', ⟨by have := HK1.out; omega⟩, zq21⟩
    ·rw [if_neg c4] at H
     exact absurd H zq51
   ·rw [if_neg c3] at H
    have c3b0 : decide (x5_1 < (l0.length : Int)) = false := decide_eq_false c3
    clear c3
    obtain rfl := Option.some.inj H
    go_wp2
    go_ret
    exact ⟨zq20, zq21⟩
end Go.Proofs.Ytbpebehbfpgjbaa.P
end
