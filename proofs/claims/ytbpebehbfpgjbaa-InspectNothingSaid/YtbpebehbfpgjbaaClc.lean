/- Texts of the proof, joined: what they prove stands at each theorem. -/
import Derived.WideKeyEntry
import Derived.Maps.OwnRows
import Derived.Maps.Range
import Derived.Shelf.Small.Bits
import Derived.Shelf.Strconv.Itoa0
import Derived.Shelf.Sort.Plain
import Derived.Shelf.Bits.Mul64
import Derived.Ground.Names2Prog
import Derived.Shelf.Slices.SearchI
import Derived.Shelf.Slices.In.SortNone
import Derived.Shelf.Slices.Empties
import Derived.Test.YtbpebehbfpgjbaaProg
import Derived.ChangeArms
import Derived.ChangeSlices
import Derived.Shelf.Abstract
import Derived.Test.YtbpebehbfpgjbaaCla
import Derived.Test.YtbpebehbfpgjbaaClb
section
namespace Go.Proofs.Ytbpebehbfpgjbaa.GM
open Go.RowKit Go.Proofs.YtbpebehbfpgjbaaW.PrintWords Go.Proofs.YtbpebehbfpgjbaaW.PrintLast Go.Proofs.YtbpebehbfpgjbaaW.PrintMore
open Go.ChangeMaps Go.MapKept
open Go.WideElems (findIdx_born findIdx_arr modify_last set_self)
open Go.Maps (Keyed)
set_option linter.unusedVariables false
set_option linter.unusedSimpArgs false
variable {P : Program} {kt E t : TypeId} {e : TypeId} {q : IntKind}
def Groups (P : Program) (kt e : TypeId) (q : IntKind) (W : World) (base b : Nat) (f : Value → List Int) : Prop :=
 ∃ es clock, W.heap[b]? = some (.map es clock) ∧ Stamped es clock ∧
  (∀ x ∈ es.toList, (∃ l, keyOf P kt x.key = some l) ∧ f x.key ≠ [] ∧ W.ownsRow base e 1 x.val (f x.key).length (nums q (f x.key))) ∧
  (∀ key, f key ≠ [] → ∃ x ∈ es.toList, x.key = key) ∧
  (∀ x ∈ es.toList, ∀ y ∈ es.toList, x.key ≠ y.key → x.val.ownBlock = none ∨ x.val.ownBlock ≠ y.val.ownBlock)
theorem inj_of_nodup_map {α β : Type} {f : α → β} : ∀ {l : List α}, (l.map f).Nodup → ∀ {x y : α}, x ∈ l → y ∈ l → f x = f y → x = y
 | [], _, _, _, hx, _, _ => by simp at hx
 | a :: l, h, x, y, hx, hy, e => by
  rw [List.map_cons, List.nodup_cons] at h
  rcases List.mem_cons.1 hx with h1 | h1 <;> rcases List.mem_cons.1 hy with h2 | h2
  ·rw [h1, h2]
  ·exact absurd (List.mem_map.2 ⟨y, h2, by rw [← e, h1]⟩) h.1
  ·exact absurd (List.mem_map.2 ⟨x, h1, by rw [e, h2]⟩) h.1
  ·exact inj_of_nodup_map h.2 h1 h2 e
theorem nodup_of_map {α β : Type} {f : α → β} : ∀ {l : List α}, (l.map f).Nodup → l.Nodup
 | [], _ => List.nodup_nil
 | a :: l, h => by
  rw [List.map_cons, List.nodup_cons] at h
  exact List.nodup_cons.2 ⟨fun hm => h.1 (List.mem_map.2 ⟨a, hm, rfl⟩), nodup_of_map h.2⟩
theorem blk_alloc' {W : World} {b : Nat} (hb : b < W.heap.size) (o' : Obj) : (W.alloc o').heap[b]? = W.heap[b]? := Below.heap_alloc W o' b hb
theorem Groups.made (W : World) (base : Nat) : Groups P kt e q (W.alloc (.map #[] 0)) base W.heap.size (fun _ => []) :=
 ⟨#[], 0, blk_new W _, stamped_empty 0, by simp, fun _ h => absurd rfl h, by simp⟩
theorem own_notmap {W : World} {base : Nat} {v : Value} {n : Nat} {xs : List Value} {b : Nat} {es : Array MapEntry} {clock : Nat} (h : W.ownsRow base e 1 v n xs) (hb : W.heap[b]? = some (.map es clock)) : v.ownBlock ≠ some b := by
 intro hk
 obtain ⟨cells, hc⟩ := own_typed h b hk
 rw [hc] at hb
 cases hb
theorem Groups.move {W W' : World} {base b : Nat} {f : Value → List Int} (h : Groups P kt e q W base b f) (hb : W'.heap[b]? = W.heap[b]?) (hm : ∀ j, base ≤ j → j < W.heap.size → W'.heap[j]? = W.heap[j]?) : Groups P kt e q W' base b f := by
 obtain ⟨es, clock, h1, h2, h3, h4, h5⟩ := h
 refine ⟨es, clock, hb.trans h1, h2, fun x hx => ?_, h4, h5⟩
 obtain ⟨a1, a2, a3⟩ := h3 x hx
 exact ⟨a1, a2, own_move a3 (fun k hk => hm k (own_base a3 k hk) (own_lt a3 k hk))⟩
theorem Groups.below {W W' : World} {base b : Nat} {f : Value → List Int} (h : Groups P kt e q W base b f) (hb : Below W.heap.size W W') : Groups P kt e q W' base b f := by
 have hlt : b < W.heap.size := by obtain ⟨es, clock, h1, _⟩ := h; exact blk_lt h1
 exact h.move (hb.block b hlt) (fun j _ hj => hb.block j hj)
theorem Groups.lt {W : World} {base b : Nat} {f : Value → List Int} (h : Groups P kt e q W base b f) : b < W.heap.size := by
 obtain ⟨es, clock, h1, _⟩ := h
 exact blk_lt h1
theorem Groups.lookup {W : World} {base b : Nat} {f : Value → List Int} (h : Groups P kt e q W base b f) (K : Keyed P kt) (ht : P.underlying t = some (.map kt E)) (hz : ∀ u : World, (zeroValue E).run P u = .ok (.slice none 0 0) u)
  {key : Value} {l : Lit} (hkey : keyOf P kt key = some l) :
  ∃ v, (∀ W' : World, W'.heap[b]? = W.heap[b]? → (Instr.lookup t (.map (some b)) key false).run P W' = .ok v W') ∧ W.ownsRow base e 1 v (f key).length (nums q (f key)) := by
 obtain ⟨es, clock, h1, h2, h3, h4, h5⟩ := h
 have hks : ∀ x ∈ es.toList, ∃ l, keyOf P kt x.key = some l := fun x hx => (h3 x hx).1
 by_cases hin : ∃ x ∈ es.toList, x.key = key
 ·obtain ⟨x, hx, hxk⟩ := hin
  refine ⟨x.val, fun W' hW' => ?_, ?_⟩
  ·have hb' := hW'.trans h1
   rcases K.find W' hkey es.toList hks with ⟨f1, f2⟩ | ⟨j, e0, f1, f2, f3⟩
   ·exact absurd hxk (f2 x hx)
   ·have : e0 = x := by
     have hn := h2.2.2
     have hm0 : e0 ∈ es.toList := List.mem_of_getElem? f2
     exact inj_of_nodup_map hn hm0 hx (by rw [f3, hxk])
    subst this
    simp [Instr.lookup, run_underlying ht, MapKept.run_getObj_map hb', K.check W' _ hkey, f1, Result.andThen]
  ·have := (h3 x hx).2.2
   rwa [hxk] at this
 ·have hf : f key = [] := by
   by_cases h0 : f key = []
   ·exact h0
   ·exact absurd (h4 key h0) hin
  refine ⟨.slice none 0 0, fun W' hW' => ?_, by rw [hf]; exact own_nil _ _ _ _⟩
  have hb' := hW'.trans h1
  rcases K.find W' hkey es.toList hks with ⟨f1, f2⟩ | ⟨j, e0, f1, f2, f3⟩
  ·simp [Instr.lookup, run_underlying ht, MapKept.run_getObj_map hb', K.check W' _ hkey, f1, hz, Result.andThen]
  ·exact absurd ⟨e0, List.mem_of_getElem? f2, f3⟩ hin
theorem Groups.entry {W : World} {base b : Nat} {f : Value → List Int} (h : Groups P kt e q W base b f) (K : Keyed P kt) (ht : P.underlying t = some (.map kt E)) (hz : ∀ u : World, (zeroValue E).run P u = .ok (.slice none 0 0) u)
  {key : Value} {l : Lit} (hkey : keyOf P kt key = some l) (W' : World) (hW' : W'.heap[b]? = W.heap[b]?) :
  ∃ v0 st es1 clock1, (Instr.mapEntry t (.map (some b)) key).run P W' = .ok (.tuple #[v0, goInt st]) (setBlock W' b (.map es1 clock1)) ∧ (∃ es clock, W.heap[b]? = some (.map es clock)) ∧
   W.ownsRow base e 1 v0 (f key).length (nums q (f key)) ∧ v0.ownBlock ≠ some b ∧
   ∀ (W2 : World) (val : Value) (xs : List Int) (f' : Value → List Int), W2.heap[b]? = some (.map es1 clock1) → (∀ j, j < W.heap.size → j ≠ b → some j ≠ v0.ownBlock → W2.heap[j]? = W.heap[j]?) →
    W2.ownsRow base e 1 val xs.length (nums q xs) → xs ≠ [] → (val.ownBlock = v0.ownBlock ∨ ∃ g, val.ownBlock = some g ∧ W.heap.size ≤ g) → f' key = xs → (∀ k', k' ≠ key → f' k' = f k') →
    ∃ es' clock', (Instr.entryStore t (.map (some b)) (goInt st) val).run P W2 = .ok () (setBlock W2 b (.map es' clock')) ∧ Groups P kt e q (setBlock W2 b (.map es' clock')) base b f' := by
 obtain ⟨es, clock, h1, h2, h3, h4, h5⟩ := h
 have h1' := hW'.trans h1
 have hks : ∀ x ∈ es.toList, ∃ l, keyOf P kt x.key = some l := fun x hx => (h3 x hx).1
 obtain ⟨s1, s2, s3⟩ := h2
 rcases K.find W' hkey es.toList hks with ⟨f1, f2⟩ | ⟨j, e0, f1, f2, f3⟩
 ·have hf : f key = [] := by
   by_cases h0 : f key = []
   ·exact h0
   ·obtain ⟨x, hx, hk⟩ := h4 key h0
    exact absurd hk (f2 x hx)
  refine ⟨.slice none 0 0, clock, es.push ⟨key, .slice none 0 0, clock⟩, clock + 1, ?_, ⟨es, clock, h1⟩, by rw [hf]; exact own_nil _ _ _ _, by simp [Value.ownBlock], ?_⟩
  ·simp [Instr.mapEntry, run_underlying ht, MapKept.run_getObj_map h1', K.check W' false hkey, f1, hz, MapKept.run_setObj_map _ h1', Result.andThen, setBlock]
  ·intro W2 val xs f' hW2 hfar hown hne hloc hf1 hf2
   refine ⟨es.push ⟨key, val, clock⟩, clock + 1, ?_, es.push ⟨key, val, clock⟩, clock + 1, heap_setBlock_same hW2 _, stamped_push ⟨s1, s2, s3⟩ f2, ?_, ?_, ?_⟩
   ·have hidx : (es.push ⟨key, .slice none 0 0, clock⟩).findIdx? (fun e => ((e.born : Nat) : Int) == ((clock : Nat) : Int)) = some es.size := by
     rw [findIdx_arr]
     exact findIdx_born (l := (es.push ⟨key, .slice none 0 0, clock⟩).toList) (j := es.size) (e0 := ⟨key, .slice none 0 0, clock⟩) (by
      simp only [Array.toList_push, List.map_append, List.map_cons, List.map_nil]
      refine List.nodup_append.2 ⟨s2, by simp, fun a ha c hc e1 => ?_⟩
      simp only [List.mem_singleton] at hc
      obtain ⟨x, hx, rfl⟩ := List.mem_map.1 ha
      have := s1 x hx
      omega) (by simp)
    have hmod : (es.push ⟨key, .slice none 0 0, clock⟩).modify es.size (fun e => { e with val := val }) = es.push ⟨key, val, clock⟩ := by
     apply Array.ext'
     rw [Array.toList_modify, Array.toList_push, Array.toList_push, ← Array.length_toList, modify_last]
    simp [Instr.entryStore, MapKept.run_getObj_map hW2, asInt, asIntOf, goInt, hidx, hmod, MapKept.run_setObj_map _ hW2, Result.andThen, setBlock]
   ·intro x hx
    simp only [Array.toList_push, List.mem_append, List.mem_singleton] at hx
    rcases hx with hx | rfl
    ·obtain ⟨a1, a2, a3⟩ := h3 x hx
     have hxk : x.key ≠ key := f2 x hx
     rw [hf2 _ hxk]
     have hnb := own_notmap a3 h1
     refine ⟨a1, a2, own_move (own_move a3 (fun k hk => hfar k (own_lt a3 k hk) (fun e1 => hnb (by rw [hk, e1])) (by simp [Value.ownBlock]))) (fun k hk => heap_setBlock_other hW2 _ (fun e1 => hnb (by rw [hk, e1])))⟩
    ·have hnb := own_notmap hown hW2
     refine ⟨⟨l, hkey⟩, by simpa [hf1] using hne, ?_⟩
     show World.ownsRow _ base e 1 val (f' key).length (nums q (f' key))
     rw [hf1]
     exact own_move hown (fun k hk => heap_setBlock_other hW2 _ (fun e1 => hnb (by rw [hk, e1])))
   ·intro key' hk'
    by_cases e1 : key' = key
    ·subst e1
     exact ⟨⟨_, val, clock⟩, by simp, rfl⟩
    ·rw [hf2 _ e1] at hk'
     obtain ⟨x, hx, hk⟩ := h4 key' hk'
     exact ⟨x, by simp [hx], hk⟩
   ·have hnew : ∀ x ∈ es.toList, x.val.ownBlock = none ∨ x.val.ownBlock ≠ val.ownBlock := by
     intro x hx
     have a3 := (h3 x hx).2.2
     cases hxb : x.val.ownBlock with
     | none => exact .inl rfl
     | some g =>
      refine .inr (fun e1 => ?_)
      rcases hloc with h6 | ⟨g', h6, h7⟩
      ·rw [h6] at e1; simp [Value.ownBlock] at e1
      ·rw [h6] at e1
       cases e1
       have := own_lt a3 g hxb
       omega
    intro x hx y hy hne'
    simp only [Array.toList_push, List.mem_append, List.mem_singleton] at hx hy
    rcases hx with hx | rfl <;> rcases hy with hy | rfl
    ·exact h5 x hx y hy hne'
    ·exact hnew x hx
    ·rcases hnew y hy with h6 | h6
     ·show val.ownBlock = none ∨ val.ownBlock ≠ y.val.ownBlock
      cases hvb : val.ownBlock with
      | none => exact .inl rfl
      | some g => exact .inr (by rw [h6]; simp)
     ·exact .inr (fun e1 => h6 e1.symm)
    ·exact absurd rfl hne'
 ·have hj : es[j]? = some e0 := by simpa using f2
  have hm0 : e0 ∈ es.toList := List.mem_of_getElem? f2
  obtain ⟨b1, b2, b3⟩ := h3 e0 hm0
  rw [f3] at b3
  have hsame : es.modify j (fun e => { e with key := key }) = es := by
   apply Array.ext'
   rw [Array.toList_modify, modify_eq_set _ _ _ _ f2]
   have : ({ e0 with key := key } : MapEntry) = e0 := by rw [← f3]
   rw [this]
   exact set_self _ _ _ f2
  refine ⟨e0.val, e0.born, es, clock, ?_, ⟨es, clock, h1⟩, b3, own_notmap b3 h1, ?_⟩
  ·simp [Instr.mapEntry, run_underlying ht, MapKept.run_getObj_map h1', K.check W' false hkey, f1, hj, f3, K.stays W' hkey, hsame, MapKept.run_setObj_map _ h1', Result.andThen, setBlock]
  ·intro W2 val xs f' hW2 hfar hown hne hloc hf1 hf2
   have hmem : ∀ x, x ∈ (es.modify j (fun e => { e with val := val })).toList → (x.key = key ∧ x.val = val) ∨ (x ∈ es.toList ∧ x.key ≠ key) := by
    intro x hx
    rw [Array.toList_modify, modify_eq_set _ _ _ _ f2] at hx
    obtain ⟨i, hi⟩ := List.mem_iff_getElem?.1 hx
    rw [List.getElem?_set] at hi
    split at hi
    ·rename_i he
     split at hi
     ·cases hi
      exact .inl ⟨f3, rfl⟩
     ·cases hi
    ·rename_i he
     refine .inr ⟨List.mem_of_getElem? hi, fun ek => he ?_⟩
     have : x = e0 := inj_of_nodup_map s3 (List.mem_of_getElem? hi) hm0 (by rw [f3, ek])
     subst this
     have hlt1 := (List.getElem?_eq_some_iff.1 hi)
     have hlt2 := (List.getElem?_eq_some_iff.1 f2)
     have hnd : es.toList.Nodup := nodup_of_map s3
     exact (List.getElem_inj hnd).1 (by rw [hlt1.2, hlt2.2]) |>.symm
   refine ⟨es.modify j (fun e => { e with val := val }), clock, ?_, es.modify j (fun e => { e with val := val }), clock, heap_setBlock_same hW2 _, stamped_modify ⟨s1, s2, s3⟩ j _ (fun _ _ => rfl) (fun _ _ _ => rfl), ?_, ?_, ?_⟩
   ·have hidx : es.findIdx? (fun e => ((e.born : Nat) : Int) == ((e0.born : Nat) : Int)) = some j := by
     rw [findIdx_arr]
     exact findIdx_born s2 f2
    simp [Instr.entryStore, MapKept.run_getObj_map hW2, asInt, asIntOf, goInt, hidx, MapKept.run_setObj_map _ hW2, Result.andThen, setBlock]
   ·intro x hx
    rcases hmem x hx with ⟨hk, hv⟩ | ⟨hx0, hxk⟩
    ·have hnb := own_notmap hown hW2
     rw [hk, hf1, hv]
     exact ⟨⟨l, hkey⟩, hne, own_move hown (fun k hk => heap_setBlock_other hW2 _ (fun e1 => hnb (by rw [hk, e1])))⟩
    ·obtain ⟨a1, a2, a3⟩ := h3 x hx0
     rw [hf2 _ hxk]
     have hnb := own_notmap a3 h1
     refine ⟨a1, a2, own_move (own_move a3 (fun k hk => hfar k (own_lt a3 k hk) (fun e1 => hnb (by rw [hk, e1])) (fun e1 => ?_))) (fun k hk => heap_setBlock_other hW2 _ (fun e1 => hnb (by rw [hk, e1])))⟩
     rcases h5 x hx0 e0 hm0 (by rw [f3]; exact hxk) with h6 | h6
     ·rw [hk] at h6; cases h6
     ·exact h6 (by rw [hk, e1])
   ·intro key' hk'
    by_cases e1 : key' = key
    ·subst e1
     refine ⟨{ e0 with val := val }, ?_, f3⟩
     rw [Array.toList_modify, modify_eq_set _ _ _ _ f2]
     exact List.mem_set (List.getElem?_eq_some_iff.1 f2).1 _
    ·rw [hf2 _ e1] at hk'
     obtain ⟨x, hx, hk⟩ := h4 key' hk'
     refine ⟨x, ?_, hk⟩
     rw [Array.toList_modify, modify_eq_set _ _ _ _ f2]
     obtain ⟨i, hi⟩ := List.mem_iff_getElem?.1 hx
     refine List.mem_iff_getElem?.2 ⟨i, ?_⟩
     rw [List.getElem?_set]
     rw [if_neg (fun e2 => by subst e2; rw [f2] at hi; cases hi; exact e1 (by rw [← hk, f3]))]
     exact hi
   ·have hnew : ∀ x ∈ es.toList, x.key ≠ key → x.val.ownBlock = none ∨ x.val.ownBlock ≠ val.ownBlock := by
     intro x hx hxk
     have a3 := (h3 x hx).2.2
     rcases hloc with h6 | ⟨g', h6, h7⟩
     ·rw [h6]
      exact h5 x hx e0 hm0 (by rw [f3]; exact hxk)
     ·cases hxb : x.val.ownBlock with
      | none => exact .inl rfl
      | some g0 =>
       refine .inr (fun e1 => ?_)
       have e2 : some g0 = some g' := by rw [← h6]; exact e1
       have e3 : g0 = g' := Option.some.inj e2
       have := own_lt a3 g0 hxb
       omega
    intro x hx y hy hne'
    rcases hmem x hx with ⟨hk, hv⟩ | ⟨hx0, hxk⟩ <;> rcases hmem y hy with ⟨hk2, hv2⟩ | ⟨hy0, hyk⟩
    ·exact absurd (hk.trans hk2.symm) hne'
    ·rw [hv]
     rcases hnew y hy0 hyk with h6 | h6
     ·cases hvb : val.ownBlock with
      | none => exact .inl rfl
      | some g => exact .inr (by rw [h6]; simp)
     ·exact .inr (fun e1 => h6 e1.symm)
    ·rw [hv2]
     exact hnew x hx0 hxk
    ·exact h5 x hx0 y hy0 hne'
section
variable {ops : Array Oper} {rest : List Oper} {o : Oper} {a : Act} {Q : Exit → Act → World → Prop}
theorem wpList_entry {W w1 : World} (hg : o.guard = none) (m k : Operand) (t : TypeId) (hop : o.op = Op.mapEntry t m k) {vm vk v : Value} (hm : a.eval m = vm) (hk : a.eval k = vk) (hrun : (Instr.mapEntry t vm vk).run P W = .ok v w1)
  (hK : wpList P ops Q rest (a.put o.dst v) w1) : wpList P ops Q (o :: rest) a W := by
 refine wpList_plain hg fun K' hK' => ?_
 unfold Oper.wp
 simp [execOp, hop, hm, hk, hrun, Result.andThen]
 exact hK' _ _ hK
theorem setBlock_alloc {W : World} {b : Nat} (hb : b < W.heap.size) (m o' : Obj) : setBlock (W.alloc o') b m = (setBlock W b m).alloc o' := by
 unfold setBlock World.alloc
 simp only [World.mk.injEq, true_and, and_true]
 apply Array.ext_getElem?
 intro i
 simp only [Array.getElem?_setIfInBounds, Array.getElem?_push, Array.size_push, Array.size_setIfInBounds]
 by_cases h1 : b = i
 ·subst h1
  simp [hb, Nat.ne_of_lt hb, Nat.lt_succ_of_lt hb]
 ·by_cases h2 : i = W.heap.size
  ·subst h2
   simp [h1]
  ·simp [h1, h2]
theorem wpList_entry_groups {E kt e : TypeId} {q : IntKind} {W : World} {o' : Obj} {base b : Nat} {f : Value → List Int} (hg : o.guard = none) (m k : Operand) (t : TypeId) (hop : o.op = Op.mapEntry t m k) (K : Keyed P kt) (ht : P.underlying t = some (.map kt E))
  (hz : ∀ u : World, (zeroValue E).run P u = .ok (.slice none 0 0) u) {key : Value} {l : Lit} (hkey : keyOf P kt key = some l) (hm : a.eval m = .map (some b)) (hk : a.eval k = key) (hGr : Groups P kt e q W base b f)
  (hK : ∀ v0 st es1 clock1, W.ownsRow base e 1 v0 (f key).length (nums q (f key)) → v0.ownBlock ≠ some b →
   (∀ (W2 : World) (val : Value) (xs : List Int) (f' : Value → List Int), W2.heap[b]? = some (.map es1 clock1) → (∀ j, j < W.heap.size → j ≠ b → some j ≠ v0.ownBlock → W2.heap[j]? = W.heap[j]?) →
    W2.ownsRow base e 1 val xs.length (nums q xs) → xs ≠ [] → (val.ownBlock = v0.ownBlock ∨ ∃ g, val.ownBlock = some g ∧ W.heap.size ≤ g) → f' key = xs → (∀ k', k' ≠ key → f' k' = f k') →
    ∃ es' clock', (Instr.entryStore t (.map (some b)) (goInt st) val).run P W2 = .ok () (setBlock W2 b (.map es' clock')) ∧ Groups P kt e q (setBlock W2 b (.map es' clock')) base b f') →
   (setBlock W b (.map es1 clock1)).heap[b]? = some (.map es1 clock1) → (∀ j, j ≠ b → (setBlock W b (.map es1 clock1)).heap[j]? = W.heap[j]?) → (setBlock W b (.map es1 clock1)).heap.size = W.heap.size →
   wpList P ops Q rest (a.put o.dst (.tuple #[v0, goInt st])) ((setBlock W b (.map es1 clock1)).alloc o')) : wpList P ops Q (o :: rest) a (W.alloc o') := by
 have hlt := hGr.lt
 obtain ⟨v0, st, es1, clock1, hrun, ⟨es, clock, hb⟩, ho, hnb, hback⟩ := hGr.entry K ht hz hkey (W.alloc o') (blk_alloc' hlt o')
 refine wpList_entry hg m k t hop hm hk hrun ?_
 rw [setBlock_alloc hlt]
 exact hK v0 st es1 clock1 ho hnb hback (heap_setBlock_same hb _) (fun j hj => heap_setBlock_other hb _ hj) (by simp [setBlock])
end
end Go.Proofs.Ytbpebehbfpgjbaa.GM
end
section
namespace Go.Proofs
open Go.Shelf
def Try.lays189_ren : Go.Shelf.Ren := ⟨fun | 189 => 67 | 125 => 82 | 257 => 81 | 128 => 98 | 129 => 99 | 294 => 90 | 295 => 91 | 296 => 92 | 297 => 93 | 298 => 94 | 299 => 95 | 216 => 88 | 300 => 96 | 301 => 97 | 328 => 101 | 329 => 102 | 330 => 103 | 331 => 104 | 332 => 105 | 215 => 100 | 343 => 106 | n => n, fun | 28 => 29 | 3 => 3 | 46 => 136 | 0 => 0 | 51 => 153 | 53 => 114 | 4 => 4 | 183 => 147 | 182 => 146 | 131 => 134 | 5 => 5 | 9 => 9 | 218 => 155 | 222 => 159 | 228 => 161 | 229 => 162 | n => n, fun | n => n⟩
theorem Try.lays189 : Go.Proofs.Lays.n189 Try.prog Try.lays189_ren := {
 mixed := by kernel_rfl
 f125 := Try.func82.trans (congrArg some (by kernel_rfl))
 f128 := Try.func98.trans (congrArg some (by kernel_rfl))
 f129 := Try.func99.trans (congrArg some (by kernel_rfl))
 f189 := Try.func67.trans (congrArg some (by kernel_rfl))
 f215 := Try.func100.trans (congrArg some (by kernel_rfl))
 f216 := Try.func88.trans (congrArg some (by kernel_rfl))
 f257 := Try.func81.trans (congrArg some (by kernel_rfl))
 f294 := Try.func90.trans (congrArg some (by kernel_rfl))
 f295 := Try.func91.trans (congrArg some (by kernel_rfl))
 f296 := Try.func92.trans (congrArg some (by kernel_rfl))
 f297 := Try.func93.trans (congrArg some (by kernel_rfl))
 f298 := Try.func94.trans (congrArg some (by kernel_rfl))
 f299 := Try.func95.trans (congrArg some (by kernel_rfl))
 f300 := Try.func96.trans (congrArg some (by kernel_rfl))
 f301 := Try.func97.trans (congrArg some (by kernel_rfl))
 f328 := Try.func101.trans (congrArg some (by kernel_rfl))
 f329 := Try.func102.trans (congrArg some (by kernel_rfl))
 f330 := Try.func103.trans (congrArg some (by kernel_rfl))
 f331 := Try.func104.trans (congrArg some (by kernel_rfl))
 f332 := Try.func105.trans (congrArg some (by kernel_rfl))
 f343 := Try.func106.trans (congrArg some (by kernel_rfl))
 t0 := Try.underlying0
 a0 := Try.isAgg0
 z0 := Try.sizeOf0
 v0 := Try.zeroValue0
 t3 := Try.underlying3
 a3 := Try.isAgg3
 z3 := Try.sizeOf3
 v3 := Try.zeroValue3
 t4 := Try.underlying4
 a4 := Try.isAgg4
 z4 := Try.sizeOf4
 v4 := Try.zeroValue4
 t5 := Try.underlying5
 a5 := Try.isAgg5
 z5 := Try.sizeOf5
 v5 := Try.zeroValue5
 t9 := Try.underlying9
 a9 := Try.isAgg9
 z9 := Try.sizeOf9
 v9 := Try.zeroValue9
 t28 := Try.underlying29
 a28 := Try.isAgg29
 z28 := Try.sizeOf29
 v28 := Try.zeroValue29
 t46 := Try.underlying136
 a46 := Try.isAgg136
 z46 := Try.sizeOf136
 v46 := Try.zeroValue136
 t51 := Try.underlying153
 a51 := Try.isAgg153
 z51 := Try.sizeOf153
 v51 := Try.zeroValue153
 t53 := Try.underlying114
 a53 := Try.isAgg114
 z53 := Try.sizeOf114
 v53 := Try.zeroValue114
 t131 := Try.underlying134
 a131 := Try.isAgg134
 z131 := Try.sizeOf134
 v131 := Try.zeroValue134
 t182 := Try.underlying146
 a182 := Try.isAgg146
 z182 := Try.sizeOf146
 v182 := Try.zeroValue146
 t183 := Try.underlying147
 a183 := Try.isAgg147
 z183 := Try.sizeOf147
 v183 := Try.zeroValue147
 t218 := Try.underlying155
 a218 := Try.isAgg155
 z218 := Try.sizeOf155
 v218 := Try.zeroValue155
 t222 := Try.underlying159
 a222 := Try.isAgg159
 z222 := Try.sizeOf159
 v222 := Try.zeroValue159
 t228 := Try.underlying161
 a228 := Try.isAgg161
 z228 := Try.sizeOf161
 v228 := Try.zeroValue161
 t229 := Try.underlying162
 a229 := Try.isAgg162
 z229 := Try.sizeOf162
 v229 := Try.zeroValue162 }
open Go.Sort Go.RowKit in
theorem Try.slices_Sort_int (blk off cap : Nat) (zs : List Int) (w : World) (hH : Holds (Value.int .i64) w blk off zs.toArray) (hblk : blk < w.heap.size) (hsz : zs.length < 4611686018427387904) :
  Calls Try.prog 67 #[.slice (some ⟨blk, off, none⟩) zs.length cap] w fun e w' =>
   e = .returned (.tuple #[]) ∧ ∃ n os, w' = grow (putRow (Value.int .i64) (Sort.ahead w n) blk off (zs.mergeSort fun x y => decide (x ≤ y)).toArray) os := Any.slices_Sort_int Try.lays189 blk off cap zs w hH hblk hsz
def Try.lays264_ren : Go.Shelf.Ren := ⟨fun | 264 => 65 | n => n, fun | 53 => 114 | 46 => 136 | n => n, fun | n => n⟩
theorem Try.lays264 : Go.Proofs.Lays.n264 Try.prog Try.lays264_ren := {
 mixed := by kernel_rfl
 f264 := Try.func65.trans (congrArg some (by kernel_rfl))
 t46 := Try.underlying136
 a46 := Try.isAgg136
 z46 := Try.sizeOf136
 v46 := Try.zeroValue136
 t53 := Try.underlying114
 a53 := Try.isAgg114
 z53 := Try.sizeOf114
 v53 := Try.zeroValue114 }
open Go.RowKit Go.Lib in
theorem Try.bits_Mul64 (x y : Nat) (hx : x < 18446744073709551616) (hy : y < 18446744073709551616) (w : World) :
  Calls Try.prog 65 #[.int .u64 x, .int .u64 y] w fun e w' => e = .returned (.tuple #[.int .u64 ((x * y / 18446744073709551616 : Nat) : Int), .int .u64 ((x * y % 18446744073709551616 : Nat) : Int)]) ∧ w' = w := Any.bits_Mul64 Try.lays264 x y hx hy w
def Try.laysNm225_ren : Go.Shelf.Ren := ⟨fun | 25 => 79 | 31 => 88 | 32 => 89 | 37 => 100 | n => n, fun | 22 => 29 | 3 => 3 | 4 => 4 | 40 => 136 | 0 => 0 | n => n, fun | n => n⟩
theorem Try.laysNm225 : Go.Proofs.Lays2.n25 Try.prog Try.laysNm225_ren := {
 mixed := by kernel_rfl
 f25 := Try.func79.trans (congrArg some (by kernel_rfl))
 f31 := Try.func88.trans (congrArg some (by kernel_rfl))
 f32 := Try.func89.trans (congrArg some (by kernel_rfl))
 f37 := Try.func100.trans (congrArg some (by kernel_rfl))
 t0 := Try.underlying0
 a0 := Try.isAgg0
 z0 := Try.sizeOf0
 v0 := Try.zeroValue0
 t3 := Try.underlying3
 a3 := Try.isAgg3
 z3 := Try.sizeOf3
 v3 := Try.zeroValue3
 t4 := Try.underlying4
 a4 := Try.isAgg4
 z4 := Try.sizeOf4
 v4 := Try.zeroValue4
 t22 := Try.underlying29
 a22 := Try.isAgg29
 z22 := Try.sizeOf29
 v22 := Try.zeroValue29
 t40 := Try.underlying136
 a40 := Try.isAgg136
 z40 := Try.sizeOf136
 v40 := Try.zeroValue136 }
open Go.RowKit Go.Lib in
theorem Try.slices_BinarySearch_int (b off n c : Nat) (zs : List Int) (x : Int) (w : World) (hz : n ≤ zs.length) (hbig : n < 4611686018427387904) (hc : ∀ j, j < zs.length → w.cell? ⟨b, off + j, none⟩ = some (.int .i64 (zs.getD j 0))) (hs : (zs.take n).Pairwise (· ≤ ·)) :
  Calls Try.prog 79 #[.slice (some ⟨b, off, none⟩) n c, .int .i64 x] w fun e w' => e = .returned (.tuple #[.int .i64 ((zs.take n).countP (· < x) : Nat), .bool ((zs.take n).contains x)]) ∧ ∃ q, w' = w.drewN q := Any.slices_BinarySearch_int Try.laysNm225 b off n c zs x w hz hbig hc hs
open Go.RowKit Go.Sort in
theorem Try.slices_Sort_int_none (p : Option Addr) (cap : Nat) (w : World) :
  Calls Try.prog 67 #[.slice p 0 cap] w fun e w' => e = .returned (.tuple #[]) ∧ w' = w := Any.slices_Sort_int_none Try.lays189 p cap w
open Go.RowKit Go.Lib in
theorem Try.slices_BinarySearch_int_empty (a : Option Addr) (c : Nat) (x : Int) (w : World) :
  Calls Try.prog 79 #[.slice a 0 c, .int .i64 x] w fun e w' => e = .returned (.tuple #[.int .i64 0, .bool false]) ∧ w' = w := Any.slices_BinarySearch_int_empty Try.laysNm225 a c x w
end Go.Proofs
end
section
namespace Go.Proofs.Ytbpebehbfpgjbaa.GM
open Go.RowKit Go.Proofs.YtbpebehbfpgjbaaW.PrintWords Go.Proofs.YtbpebehbfpgjbaaW.PrintLast Go.Proofs.YtbpebehbfpgjbaaW.PrintMore
open Go.ChangeMaps Go.MapKept
open Go.WideElems (findIdx_born findIdx_arr modify_last set_self)
open Go.Maps (Keyed)
set_option linter.unusedVariables false
set_option linter.unusedSimpArgs false
variable {P : Program} {kt E t : TypeId} {e : TypeId} {q : IntKind}
theorem Groups.update {W : World} {base b : Nat} {f : Value → List Int} (h : Groups P kt e q W base b f) (K : Keyed P kt) (ht : P.underlying t = some (.map kt E)) (hz : ∀ u : World, (zeroValue E).run P u = .ok (.slice none 0 0) u)
  {key : Value} {l : Lit} (hkey : keyOf P kt key = some l) :
  ∃ v0, (∀ W' : World, W'.heap[b]? = W.heap[b]? → (Instr.lookup t (.map (some b)) key false).run P W' = .ok v0 W') ∧
   W.ownsRow base e 1 v0 (f key).length (nums q (f key)) ∧ v0.ownBlock ≠ some b ∧
   ∀ (W2 : World) (val : Value) (xs : List Int) (f' : Value → List Int), W2.heap[b]? = W.heap[b]? → (∀ j, j < W.heap.size → j ≠ b → some j ≠ v0.ownBlock → W2.heap[j]? = W.heap[j]?) →
    W2.ownsRow base e 1 val xs.length (nums q xs) → xs ≠ [] → (val.ownBlock = v0.ownBlock ∨ ∃ g, val.ownBlock = some g ∧ W.heap.size ≤ g) → f' key = xs → (∀ k', k' ≠ key → f' k' = f k') →
    ∃ es' clock', (Instr.mapUpdate t (.map (some b)) key val).run P W2 = .ok () (setBlock W2 b (.map es' clock')) ∧ Groups P kt e q (setBlock W2 b (.map es' clock')) base b f' := by
 obtain ⟨es, clock, h1, h2, h3, h4, h5⟩ := h
 have hks : ∀ x ∈ es.toList, ∃ l, keyOf P kt x.key = some l := fun x hx => (h3 x hx).1
 obtain ⟨s1, s2, s3⟩ := h2
 rcases K.find W hkey es.toList hks with ⟨f1, f2⟩ | ⟨j, e0, f1, f2, f3⟩
 ·have hf : f key = [] := by
   by_cases h0 : f key = []
   ·exact h0
   ·obtain ⟨x, hx, hk⟩ := h4 key h0
    exact absurd hk (f2 x hx)
  refine ⟨.slice none 0 0, fun W' hW' => ?_, by rw [hf]; exact own_nil _ _ _ _, by simp [Value.ownBlock], ?_⟩
  ·have hb' := hW'.trans h1
   rcases K.find W' hkey es.toList hks with ⟨g1, g2⟩ | ⟨j, e0, g1, g2, g3⟩
   ·simp [Instr.lookup, run_underlying ht, MapKept.run_getObj_map hb', K.check W' _ hkey, g1, hz, Result.andThen]
   ·exact absurd g3 (f2 e0 (List.mem_of_getElem? g2))
  ·intro W2 val xs f' hW20 hfar hown hne hloc hf1 hf2
   have hW2 := hW20.trans h1
   refine ⟨es.push ⟨key, val, clock⟩, clock + 1, ?_, es.push ⟨key, val, clock⟩, clock + 1, heap_setBlock_same hW2 _, stamped_push ⟨s1, s2, s3⟩ f2, ?_, ?_, ?_⟩
   ·rcases K.find W2 hkey es.toList hks with ⟨g1, g2⟩ | ⟨j, e0, g1, g2, g3⟩
    ·simp [Instr.mapUpdate, run_underlying ht, MapKept.run_getObj_map hW2, K.check W2 false hkey, g1, MapKept.run_setObj_map _ hW2, Result.andThen, setBlock]
    ·exact absurd g3 (f2 e0 (List.mem_of_getElem? g2))
   ·intro x hx
    simp only [Array.toList_push, List.mem_append, List.mem_singleton] at hx
    rcases hx with hx | rfl
    ·obtain ⟨a1, a2, a3⟩ := h3 x hx
     have hxk : x.key ≠ key := f2 x hx
     rw [hf2 _ hxk]
     have hnb := own_notmap a3 h1
     refine ⟨a1, a2, own_move (own_move a3 (fun k hk => hfar k (own_lt a3 k hk) (fun e1 => hnb (by rw [hk, e1])) (by simp [Value.ownBlock]))) (fun k hk => heap_setBlock_other hW2 _ (fun e1 => hnb (by rw [hk, e1])))⟩
    ·have hnb := own_notmap hown hW2
     refine ⟨⟨l, hkey⟩, by simpa [hf1] using hne, ?_⟩
     show World.ownsRow _ base e 1 val (f' key).length (nums q (f' key))
     rw [hf1]
     exact own_move hown (fun k hk => heap_setBlock_other hW2 _ (fun e1 => hnb (by rw [hk, e1])))
   ·intro key' hk'
    by_cases e1 : key' = key
    ·subst e1
     exact ⟨⟨_, val, clock⟩, by simp, rfl⟩
    ·rw [hf2 _ e1] at hk'
     obtain ⟨x, hx, hk⟩ := h4 key' hk'
     exact ⟨x, by simp [hx], hk⟩
   ·have hnew : ∀ x ∈ es.toList, x.val.ownBlock = none ∨ x.val.ownBlock ≠ val.ownBlock := by
     intro x hx
     have a3 := (h3 x hx).2.2
     cases hxb : x.val.ownBlock with
     | none => exact .inl rfl
     | some g =>
      refine .inr (fun e1 => ?_)
      rcases hloc with h6 | ⟨g', h6, h7⟩
      ·rw [h6] at e1; simp [Value.ownBlock] at e1
      ·rw [h6] at e1
       cases e1
       have := own_lt a3 g hxb
       omega
    intro x hx y hy hne'
    simp only [Array.toList_push, List.mem_append, List.mem_singleton] at hx hy
    rcases hx with hx | rfl <;> rcases hy with hy | rfl
    ·exact h5 x hx y hy hne'
    ·exact hnew x hx
    ·rcases hnew y hy with h6 | h6
     ·show val.ownBlock = none ∨ val.ownBlock ≠ y.val.ownBlock
      cases hvb : val.ownBlock with
      | none => exact .inl rfl
      | some g => exact .inr (by rw [h6]; simp)
     ·exact .inr (fun e1 => h6 e1.symm)
    ·exact absurd rfl hne'
 ·have hj : es[j]? = some e0 := by simpa using f2
  have hm0 : e0 ∈ es.toList := List.mem_of_getElem? f2
  obtain ⟨b1, b2, b3⟩ := h3 e0 hm0
  rw [f3] at b3
  refine ⟨e0.val, fun W' hW' => ?_, b3, own_notmap b3 h1, ?_⟩
  ·have hb' := hW'.trans h1
   rcases K.find W' hkey es.toList hks with ⟨g1, g2⟩ | ⟨j', e1, g1, g2, g3⟩
   ·exact absurd f3 (g2 e0 hm0)
   ·have : e1 = e0 := inj_of_nodup_map s3 (List.mem_of_getElem? g2) hm0 (by rw [f3, g3])
    subst this
    simp [Instr.lookup, run_underlying ht, MapKept.run_getObj_map hb', K.check W' _ hkey, g1, Result.andThen]
  ·intro W2 val xs f' hW20 hfar hown hne hloc hf1 hf2
   have hW2 := hW20.trans h1
   have hmem : ∀ x, x ∈ (es.modify j (fun e => { e with val := val })).toList → (x.key = key ∧ x.val = val) ∨ (x ∈ es.toList ∧ x.key ≠ key) := by
    intro x hx
    rw [Array.toList_modify, modify_eq_set _ _ _ _ f2] at hx
    obtain ⟨i, hi⟩ := List.mem_iff_getElem?.1 hx
    rw [List.getElem?_set] at hi
    split at hi
    ·rename_i he
     split at hi
     ·cases hi
      exact .inl ⟨f3, rfl⟩
     ·cases hi
    ·rename_i he
     refine .inr ⟨List.mem_of_getElem? hi, fun ek => he ?_⟩
     have : x = e0 := inj_of_nodup_map s3 (List.mem_of_getElem? hi) hm0 (by rw [f3, ek])
     subst this
     have hlt1 := (List.getElem?_eq_some_iff.1 hi)
     have hlt2 := (List.getElem?_eq_some_iff.1 f2)
     have hnd : es.toList.Nodup := nodup_of_map s3
     exact (List.getElem_inj hnd).1 (by rw [hlt1.2, hlt2.2]) |>.symm
   refine ⟨es.modify j (fun e => { e with val := val }), clock, ?_, es.modify j (fun e => { e with val := val }), clock, heap_setBlock_same hW2 _, stamped_modify ⟨s1, s2, s3⟩ j _ (fun _ _ => rfl) (fun _ _ _ => rfl), ?_, ?_, ?_⟩
   ·rcases K.find W2 hkey es.toList hks with ⟨g1, g2⟩ | ⟨j', e1, g1, g2, g3⟩
    ·exact absurd f3 (g2 e0 hm0)
    ·have h10 : e1 = e0 := inj_of_nodup_map s3 (List.mem_of_getElem? g2) hm0 (by rw [f3, g3])
     have hjj : j' = j := by
      have hnd : es.toList.Nodup := nodup_of_map s3
      have q1 := List.getElem?_eq_some_iff.1 g2
      have q2 := List.getElem?_eq_some_iff.1 f2
      exact (List.getElem_inj hnd).1 (by rw [q1.2, q2.2, h10])
     subst h10
     subst hjj
     have hmk : es.modify j' (fun e => { e with key := key, val := val }) = es.modify j' (fun e => { e with val := val }) := by
      apply Array.ext'
      rw [Array.toList_modify, Array.toList_modify, modify_eq_set _ _ _ _ f2, modify_eq_set _ _ _ _ f2, ← f3]
     simp [Instr.mapUpdate, run_underlying ht, MapKept.run_getObj_map hW2, K.check W2 false hkey, g1, hj, f3, K.stays W2 hkey, hmk, MapKept.run_setObj_map _ hW2, Result.andThen, setBlock]
   ·intro x hx
    rcases hmem x hx with ⟨hk, hv⟩ | ⟨hx0, hxk⟩
    ·have hnb := own_notmap hown hW2
     rw [hk, hf1, hv]
     exact ⟨⟨l, hkey⟩, hne, own_move hown (fun k hk => heap_setBlock_other hW2 _ (fun e1 => hnb (by rw [hk, e1])))⟩
    ·obtain ⟨a1, a2, a3⟩ := h3 x hx0
     rw [hf2 _ hxk]
     have hnb := own_notmap a3 h1
     refine ⟨a1, a2, own_move (own_move a3 (fun k hk => hfar k (own_lt a3 k hk) (fun e1 => hnb (by rw [hk, e1])) (fun e1 => ?_))) (fun k hk => heap_setBlock_other hW2 _ (fun e1 => hnb (by rw [hk, e1])))⟩
     rcases h5 x hx0 e0 hm0 (by rw [f3]; exact hxk) with h6 | h6
     ·rw [hk] at h6; cases h6
     ·exact h6 (by rw [hk, e1])
   ·intro key' hk'
    by_cases e1 : key' = key
    ·subst e1
     refine ⟨{ e0 with val := val }, ?_, f3⟩
     rw [Array.toList_modify, modify_eq_set _ _ _ _ f2]
     exact List.mem_set (List.getElem?_eq_some_iff.1 f2).1 _
    ·rw [hf2 _ e1] at hk'
     obtain ⟨x, hx, hk⟩ := h4 key' hk'
     refine ⟨x, ?_, hk⟩
     rw [Array.toList_modify, modify_eq_set _ _ _ _ f2]
     obtain ⟨i, hi⟩ := List.mem_iff_getElem?.1 hx
     refine List.mem_iff_getElem?.2 ⟨i, ?_⟩
     rw [List.getElem?_set]
     rw [if_neg (fun e2 => by subst e2; rw [f2] at hi; cases hi; exact e1 (by rw [← hk, f3]))]
     exact hi
   ·have hnew : ∀ x ∈ es.toList, x.key ≠ key → x.val.ownBlock = none ∨ x.val.ownBlock ≠ val.ownBlock := by
     intro x hx hxk
     have a3 := (h3 x hx).2.2
     rcases hloc with h6 | ⟨g', h6, h7⟩
     ·rw [h6]
      exact h5 x hx e0 hm0 (by rw [f3]; exact hxk)
     ·cases hxb : x.val.ownBlock with
      | none => exact .inl rfl
      | some g0 =>
       refine .inr (fun e1 => ?_)
       have e2 : some g0 = some g' := by rw [← h6]; exact e1
       have e3 : g0 = g' := Option.some.inj e2
       have := own_lt a3 g0 hxb
       omega
    intro x hx y hy hne'
    rcases hmem x hx with ⟨hk, hv⟩ | ⟨hx0, hxk⟩ <;> rcases hmem y hy with ⟨hk2, hv2⟩ | ⟨hy0, hyk⟩
    ·exact absurd (hk.trans hk2.symm) hne'
    ·rw [hv]
     rcases hnew y hy0 hyk with h6 | h6
     ·cases hvb : val.ownBlock with
      | none => exact .inl rfl
      | some g => exact .inr (by rw [h6]; simp)
     ·exact .inr (fun e1 => h6 e1.symm)
    ·rw [hv2]
     exact hnew x hx0 hxk
    ·exact h5 x hx0 y hy0 hne'
end Go.Proofs.Ytbpebehbfpgjbaa.GM
end
section
namespace Go.Proofs.Ytbpebehbfpgjbaa.P
open Go.RowKit Go.Proofs.YtbpebehbfpgjbaaW.PrintWords Go.Proofs.YtbpebehbfpgjbaaW.PrintLast Go.Proofs.YtbpebehbfpgjbaaW.PrintMore
set_option linter.unusedVariables false
set_option linter.unusedSimpArgs false
def Opens {α : Type} (d : Kd α) (t : TypeId) : Prop := ∀ {H : Type} {enc : TypeId × Value → H} {W : World} {fuel : Nat} {cs : List Value} {x : DataW H × List MemPlace}, DataW.trod enc Try.prog W 0 (fun _ => true) true fuel t cs = some x → ∃ a : α, d.K W a cs
theorem opens_int {t : TypeId} {k : IntKind} (ht : Try.prog.underlying t = some (.int k)) : Opens (Kd.int k) t := fun h => by
 obtain ⟨n, rfl, _⟩ := DataW.trod_int ht h
 exact ⟨n, rfl⟩
theorem opens_bool {t : TypeId} (ht : Try.prog.underlying t = some .bool) : Opens Kd.bool t := fun h => by
 obtain ⟨n, rfl, _⟩ := DataW.trod_bool ht h
 exact ⟨n, rfl⟩
theorem opens_string {t : TypeId} (ht : Try.prog.underlying t = some .string) : Opens Kd.string t := fun h => by
 obtain ⟨n, rfl, _⟩ := DataW.trod_string ht h
 exact ⟨n, rfl⟩
theorem list_choose {α : Type} {p : Nat → α → Prop} : ∀ n : Nat, (∀ i, i < n → ∃ a, p i a) → ∃ l : List α, l.length = n ∧ ∀ i a, l[i]? = some a → p i a
 | 0, _ => ⟨[], rfl, fun i a h => by simp at h⟩
 | n + 1, h => by
  obtain ⟨l, hl, hp⟩ := list_choose n (fun i hi => h i zq18)
  obtain ⟨a, ha⟩ := h n zq18
  refine ⟨l ++ [a], by simp [hl], fun i b hb => ?_⟩
  rcases Nat.lt_or_ge i n with hi | hi
  ·rw [List.getElem?_append_left zq18] at hb
   exact hp i b hb
  ·rw [List.getElem?_append_right zq18] at hb
   have : i = n := by
    have := (List.getElem?_eq_some_iff.1 hb).1
    simp at this
    omega
   subst this
   simp [hl] at hb
   subst hb
   exact ha
theorem Addr.add_add' (a : Addr) (m n : Nat) : (a.add m).add n = a.add (m + n) := by
 unfold Addr.add
 by_cases hm : m = 0
 ·subst hm; simp
 ·by_cases hn : n = 0
  ·subst hn; simp [hm]
  ·simp [hm, hn, Nat.add_assoc]
theorem len2 : ∀ cs : List Value, cs.length = 2 → ∃ a b, cs = [a, b]
 | [a, b], _ => ⟨a, b, rfl⟩
theorem len3 : ∀ cs : List Value, cs.length = 3 → ∃ a b c, cs = [a, b, c]
 | [a, b, c], _ => ⟨a, b, c, rfl⟩
theorem len7 : ∀ cs : List Value, cs.length = 7 → ∃ a b c d e f g, cs = [a, b, c, d, e, f, g]
 | [a, b, c, d, e, f, g], _ => ⟨a, b, c, d, e, f, g, rfl⟩
theorem opens_slice {α : Type} {d : Kd α} {t e : TypeId} (ht : Try.prog.underlying t = some (.slice e)) (hc : Try.prog.cellsOf e = d.sz) (hd : Opens d e) : Opens (Kd.slice e d) t := fun {H enc W fuel cs x} h => by
 rcases DataW.trod_slice ht h with ⟨rfl, _⟩ | ⟨a, len, cap, elems, rest, n, _, rfl, _, _, hl, hm, hlen, hel, _, _⟩
 ·exact ⟨[], none, 0, rfl, Nat.le_refl _, rfl, zq51, fun h => absurd h zq51⟩
 ·obtain ⟨l, hl1, hl2⟩ := list_choose (p := fun i p => ∃ c, W.cells? 0 (a.add (i * d.sz)) d.sz = some c ∧ d.K W p c) len (fun i hi => by
   have he := hel i hi
   rw [List.getElem?_eq_getElem zq18, hc, Option.bind_eq_some_iff] at he
   obtain ⟨c, h1, h2⟩ := he
   obtain ⟨p, hp⟩ := hd h2
   exact ⟨p, c, h1, hp⟩)
  refine ⟨l, some a, cap, by rw [hl1], zq18, rfl, by unfold maxLen at hm; omega, fun _ => ⟨a, rfl, fun j p hj => ?_⟩⟩
  obtain ⟨c, h1, h2⟩ := hl2 j p hj
  refine ⟨c, d.K_len h2, h2, fun i u hu => ?_⟩
  have hi : i < d.sz := by
   have := (List.getElem?_eq_some_iff.1 hu).1
   have := d.K_len h2
   omega
  have h3 := (World.cells?_some h1).2.2 i hi
  rw [Addr.add_add'] at h3
  exact h3.trans hu
theorem opens_68 : Opens k68 68 := fun {H enc W fuel cs x} h => by
 obtain ⟨xs, n, _, _, hl, hx, hf⟩ := DataW.trod_struct Try.underlying68 h
 rw [show Try.prog.cellsOf 68 = 3 from by kernel_rfl] at hl
 obtain ⟨v0, v1, v2, rfl⟩ := len3 cs hl
 have hx' : xs.length = 3 := hx
 have h0 := hf 0 ⟨ "Class", 3, 0, false, "", "", 0⟩ rfl
 rw [List.getElem?_eq_getElem zq18] at h0
 simp only [show Try.prog.cellsOf 3 = 1 from by kernel_rfl, List.drop_succ_cons, List.drop_zero, List.take_succ_cons, List.take_zero] at h0
 obtain ⟨a0, k0⟩ := opens_int Try.underlying3 h0
 have h1 := hf 1 ⟨ "Miss", 3, 1, false, "", "", 8⟩ rfl
 rw [List.getElem?_eq_getElem zq18] at h1
 simp only [show Try.prog.cellsOf 3 = 1 from by kernel_rfl, List.drop_succ_cons, List.drop_zero, List.take_succ_cons, List.take_zero] at h1
 obtain ⟨a1, k1⟩ := opens_int Try.underlying3 h1
 have h2 := hf 2 ⟨ "Of", 3, 2, false, "", "", 16⟩ rfl
 rw [List.getElem?_eq_getElem zq18] at h2
 simp only [show Try.prog.cellsOf 3 = 1 from by kernel_rfl, List.drop_succ_cons, List.drop_zero, List.take_succ_cons, List.take_zero] at h2
 obtain ⟨a2, k2⟩ := opens_int Try.underlying3 h2
 exact ⟨⟨a0, a1, a2⟩, [v0], [v1, v2], rfl, k0, [v1], [v2], rfl, k1, k2⟩
theorem opens_58 : Opens k58 58 := fun {H enc W fuel cs x} h => by
 obtain ⟨xs, n, _, _, hl, hx, hf⟩ := DataW.trod_struct Try.underlying58 h
 rw [show Try.prog.cellsOf 58 = 2 from by kernel_rfl] at hl
 obtain ⟨v0, v1, rfl⟩ := len2 cs hl
 have hx' : xs.length = 2 := hx
 have h0 := hf 0 ⟨ "Name", 9, 0, false, "", "", 0⟩ rfl
 rw [List.getElem?_eq_getElem zq18] at h0
 simp only [show Try.prog.cellsOf 9 = 1 from by kernel_rfl, List.drop_succ_cons, List.drop_zero, List.take_succ_cons, List.take_zero] at h0
 obtain ⟨a0, k0⟩ := opens_string Try.underlying9 h0
 have h1 := hf 1 ⟨ "Need", 3, 1, false, "", "", 16⟩ rfl
 rw [List.getElem?_eq_getElem zq18] at h1
 simp only [show Try.prog.cellsOf 3 = 1 from by kernel_rfl, List.drop_succ_cons, List.drop_zero, List.take_succ_cons, List.take_zero] at h1
 obtain ⟨a1, k1⟩ := opens_int Try.underlying3 h1
 exact ⟨⟨a0, a1⟩, [v0], [v1], rfl, k0, k1⟩
theorem opens_54 : Opens (Kd.slice 68 k68) 54 := opens_slice Try.underlying54 zq26 opens_68
theorem opens_56 : Opens k56 56 := fun {H enc W fuel cs x} h => by
 obtain ⟨xs, n, _, _, hl, hx, hf⟩ := DataW.trod_struct Try.underlying56 h
 rw [show Try.prog.cellsOf 56 = 2 from by kernel_rfl] at hl
 obtain ⟨v0, v1, rfl⟩ := len2 cs hl
 have hx' : xs.length = 2 := hx
 have h0 := hf 0 ⟨ "Name", 9, 0, false, "", "", 0⟩ rfl
 rw [List.getElem?_eq_getElem zq18] at h0
 simp only [show Try.prog.cellsOf 9 = 1 from by kernel_rfl, List.drop_succ_cons, List.drop_zero, List.take_succ_cons, List.take_zero] at h0
 obtain ⟨a0, k0⟩ := opens_string Try.underlying9 h0
 have h1 := hf 1 ⟨ "Claims", 54, 1, false, "", "", 16⟩ rfl
 rw [List.getElem?_eq_getElem zq18] at h1
 simp only [show Try.prog.cellsOf 54 = 1 from by kernel_rfl, List.drop_succ_cons, List.drop_zero, List.take_succ_cons, List.take_zero] at h1
 obtain ⟨a1, k1⟩ := opens_54 h1
 exact ⟨⟨a0, a1⟩, [v0], [v1], rfl, k0, k1⟩
theorem opens_45 : Opens k45 45 := fun {H enc W fuel cs x} h => by
 obtain ⟨xs, n, _, _, hl, hx, hf⟩ := DataW.trod_struct Try.underlying45 h
 rw [show Try.prog.cellsOf 45 = 7 from by kernel_rfl] at hl
 obtain ⟨v0, v1, v2, v3, v4, v5, v6, rfl⟩ := len7 cs hl
 have hx' : xs.length = 7 := hx
 have h0 := hf 0 ⟨ "Time", 3, 0, false, "", "", 0⟩ rfl
 rw [List.getElem?_eq_getElem zq18] at h0
 simp only [show Try.prog.cellsOf 3 = 1 from by kernel_rfl, List.drop_succ_cons, List.drop_zero, List.take_succ_cons, List.take_zero] at h0
 obtain ⟨a0, k0⟩ := opens_int Try.underlying3 h0
 have h1 := hf 1 ⟨ "Kind", 43, 1, false, "", "", 8⟩ rfl
 rw [List.getElem?_eq_getElem zq18] at h1
 simp only [show Try.prog.cellsOf 43 = 1 from by kernel_rfl, List.drop_succ_cons, List.drop_zero, List.take_succ_cons, List.take_zero] at h1
 obtain ⟨a1, k1⟩ := opens_int Try.underlying43 h1
 have h2 := hf 2 ⟨ "Lot", 3, 2, false, "", "", 16⟩ rfl
 rw [List.getElem?_eq_getElem zq18] at h2
 simp only [show Try.prog.cellsOf 3 = 1 from by kernel_rfl, List.drop_succ_cons, List.drop_zero, List.take_succ_cons, List.take_zero] at h2
 obtain ⟨a2, k2⟩ := opens_int Try.underlying3 h2
 have h3 := hf 3 ⟨ "Number", 3, 3, false, "", "", 24⟩ rfl
 rw [List.getElem?_eq_getElem zq18] at h3
 simp only [show Try.prog.cellsOf 3 = 1 from by kernel_rfl, List.drop_succ_cons, List.drop_zero, List.take_succ_cons, List.take_zero] at h3
 obtain ⟨a3, k3⟩ := opens_int Try.underlying3 h3
 have h4 := hf 4 ⟨ "Stand", 3, 4, false, "", "", 32⟩ rfl
 rw [List.getElem?_eq_getElem zq18] at h4
 simp only [show Try.prog.cellsOf 3 = 1 from by kernel_rfl, List.drop_succ_cons, List.drop_zero, List.take_succ_cons, List.take_zero] at h4
 obtain ⟨a4, k4⟩ := opens_int Try.underlying3 h4
 have h5 := hf 5 ⟨ "Class", 3, 5, false, "", "", 40⟩ rfl
 rw [List.getElem?_eq_getElem zq18] at h5
 simp only [show Try.prog.cellsOf 3 = 1 from by kernel_rfl, List.drop_succ_cons, List.drop_zero, List.take_succ_cons, List.take_zero] at h5
 obtain ⟨a5, k5⟩ := opens_int Try.underlying3 h5
 have h6 := hf 6 ⟨ "Out", 4, 6, false, "", "", 48⟩ rfl
 rw [List.getElem?_eq_getElem zq18] at h6
 simp only [show Try.prog.cellsOf 4 = 1 from by kernel_rfl, List.drop_succ_cons, List.drop_zero, List.take_succ_cons, List.take_zero] at h6
 obtain ⟨a6, k6⟩ := opens_bool Try.underlying4 h6
 exact ⟨⟨a0, a1, a2, a3, a4, a5, a6⟩, [v0], [v1, v2, v3, v4, v5, v6], rfl, k0, [v1], [v2, v3, v4, v5, v6], rfl, k1, [v2], [v3, v4, v5, v6], rfl, k2, [v3], [v4, v5, v6], rfl, k3, [v4], [v5, v6], rfl, k4, [v5], [v6], rfl, k5, k6⟩
theorem opens_22 : Opens (Kd.slice 58 k58) 22 := opens_slice Try.underlying22 zq26 opens_58
theorem opens_23 : Opens (Kd.slice 56 k56) 23 := opens_slice Try.underlying23 zq26 opens_56
theorem opens_26 : Opens (Kd.slice 45 k45) 26 := opens_slice Try.underlying26 zq26 opens_45
theorem cells_one {v u : Value} (h : v.cells.toList = [u]) (hu : ∀ a : Array Value, v ≠ .agg a) : v = u := by
 cases v <;> first | (simp [Value.cells] at h; exact h) | exact absurd rfl (hu _)
theorem open_runs {H : Type} {enc : TypeId × Value → H} {W : World} {v : Value} {d : DataW H} {ps : List MemPlace} (h : DataW.Trod enc Try.prog W 0 (fun _ => true) true 26 v d ps) (hv : ∀ a : Array Value, v ≠ .agg a) :
  ∃ A c l, v = .slice A (List.length (α := S45) l) c ∧ l.length ≤ c ∧ Kd.C k45 W A l.length l := by
 obtain ⟨fuel, hf⟩ := h
 obtain ⟨l, A, c, hc, hl, hC⟩ := opens_26 hf
 exact ⟨A, c, l, cells_one hc hv, hl, hC⟩
theorem open_checker {H : Type} {enc : TypeId × Value → H} {W : World} {v : Value} {d : DataW H} {ps : List MemPlace} (h : DataW.Trod enc Try.prog W 0 (fun _ => true) true 25 v d ps) :
  ∃ a0 A1 c1 l1 A2 c2 l2, v = .agg #[.int .i64 a0, .slice A1 (List.length (α := S58) l1) c1, .slice A2 (List.length (α := S56) l2) c2] ∧ (Lit.int .i64 a0).wf = true ∧ l1.length ≤ c1 ∧ Kd.C k58 W A1 l1.length l1 ∧ l2.length ≤ c2 ∧ Kd.C k56 W A2 l2.length l2 := by
 obtain ⟨fuel, h⟩ := h
 obtain ⟨cs, hcs⟩ : ∃ cs, cs = v.cells.toList := ⟨_, rfl⟩
 rw [← hcs] at h
 obtain ⟨xs, n, _, _, hl, hx, hf⟩ := DataW.trod_struct Try.underlying25 h
 rw [show Try.prog.cellsOf 25 = 3 from by kernel_rfl] at hl
 obtain ⟨v0, v1, v2, rfl⟩ := len3 cs hl
 have hx' : xs.length = 3 := hx
 have h0 := hf 0 ⟨ "Every", 3, 0, false, "", "", 0⟩ rfl
 rw [List.getElem?_eq_getElem zq18] at h0
 simp only [show Try.prog.cellsOf 3 = 1 from by kernel_rfl, List.drop_succ_cons, List.drop_zero, List.take_succ_cons, List.take_zero] at h0
 have h1 := hf 1 ⟨ "Flaws", 22, 1, false, "", "", 8⟩ rfl
 rw [List.getElem?_eq_getElem zq18] at h1
 simp only [show Try.prog.cellsOf 22 = 1 from by kernel_rfl, List.drop_succ_cons, List.drop_zero, List.take_succ_cons, List.take_zero] at h1
 obtain ⟨a1, k1⟩ := opens_22 h1
 have h2 := hf 2 ⟨ "Stands", 23, 2, false, "", "", 32⟩ rfl
 rw [List.getElem?_eq_getElem zq18] at h2
 simp only [show Try.prog.cellsOf 23 = 1 from by kernel_rfl, List.drop_succ_cons, List.drop_zero, List.take_succ_cons, List.take_zero] at h2
 obtain ⟨a2, k2⟩ := opens_23 h2
 obtain ⟨a0, e0, _, hw⟩ := DataW.trod_int Try.underlying3 h0
 obtain ⟨A1, c1, e1, hl1, hC1⟩ := k1
 obtain ⟨A2, c2, e2, hl2, hC2⟩ := k2
 cases e0
 cases e1
 cases e2
 refine ⟨a0, A1, c1, a1, A2, c2, a2, ?_, hw, hl1, hC1, hl2, hC2⟩
 cases v <;> first | (simp [Value.cells] at hcs; done) | skip
 rename_i a
 simp [Value.cells] at hcs
 congr 1
 apply Array.ext'
 simpa using hcs.symm
end Go.Proofs.Ytbpebehbfpgjbaa.P
end
section
namespace Go.Proofs.Ytbpebehbfpgjbaa.P
open Go.RowKit Go.Proofs.YtbpebehbfpgjbaaW.PrintWords Go.Proofs.YtbpebehbfpgjbaaW.PrintLast Go.Proofs.YtbpebehbfpgjbaaW.PrintMore
attribute [local go_sem] max2_int min2_int max_two min_two max_three min_three max_four min_four
set_option linter.unusedVariables false
set_option linter.unusedSimpArgs false
def inspect_within.f (a0 : Int) (a1 : Int) (a2 : Int) : Option (Bool) := if a0 ≥ a1 then (some (decide (a0 ≤ a2))) else (some false)
set_option maxHeartbeats 8000000 in
set_option maxRecDepth 100000 in
theorem inspect_within.calls (a0 : Int) (a1 : Int) (a2 : Int) (r : Bool) (w : World) (h : inspect_within.f a0 a1 a2 = some r) :
  Calls Try.prog 36 #[.int .i64 a0, .int .i64 a1, .int .i64 a2] w fun e w' => e = .returned (.bool r) ∧ Drawn0 w w' := by
 have H : (if a0 ≥ a1 then (some (decide (a0 ≤ a2))) else (some false)) = some r := h
 clear h
 by_cases c4 : a0 ≥ a1
 ·rw [if_pos c4] at H
  have c4b0 : decide (a1 ≤ a0) = true := decide_eq_true c4
  clear c4
  obtain rfl := Option.some.inj H
  go_enter Try.func36, Try.ntmps36
  go_wp2
  go_ret
  exact ⟨zq20, zq21⟩
 ·rw [if_neg c4] at H
  have c4b0 : decide (a1 ≤ a0) = false := decide_eq_false c4
  clear c4
  obtain rfl := Option.some.inj H
  go_enter Try.func36, Try.ntmps36
  go_wp2
  go_ret
  exact ⟨zq20, zq21⟩
mutual
def inspect_isName.j0 : Nat → ByteArray → Bool → Option (Bool)
 | 0, _, _ => none
 | k + 1, x0, x21 => if x21 = true then (some false) else (inspect_isName.l0 k x0 (x0.size : Int) 0)
def inspect_isName.l0 : Nat → ByteArray → Int → Int → Option (Bool)
 | 0, _, _, _ => none
 | k + 1, x0, x23, x24 => if x24 < x23 then (if 0 ≤ x24 then (if x24 < (x0.size : Int) then (if (bt x0 x24) ≥ 97 then (if (bt x0 x24) ≤ 122 then (inspect_isName.l0 k x0 x23 (wrap64 (x24 + 1))) else (if (bt x0 x24) ≥ 48 then (if (bt x0 x24) ≤ 57 then (inspect_isName.l0 k x0 x23 (wrap64 (x24 + 1))) else (if ((bt x0 x24) = 45) then (inspect_isName.l0 k x0 x23 (wrap64 (x24 + 1))) else (some false))) else (if ((bt x0 x24) = 45) then (inspect_isName.l0 k x0 x23 (wrap64 (x24 + 1))) else (some false)))) else (if (bt x0 x24) ≥ 48 then (if (bt x0 x24) ≤ 57 then (inspect_isName.l0 k x0 x23 (wrap64 (x24 + 1))) else (if ((bt x0 x24) = 45) then (inspect_isName.l0 k x0 x23 (wrap64 (x24 + 1))) else (some false))) else (if ((bt x0 x24) = 45) then (inspect_isName.l0 k x0 x23 (wrap64 (x24 + 1))) else (some false)))) else (none)) else (none)) else (some true)
end
def inspect_isName.f (k : Nat) (a0 : ByteArray) : Option (Bool) := if a0.toList = ([] : List UInt8) then (inspect_isName.j0 k a0 true) else (if (a0.size : Int) > 16 then (inspect_isName.j0 k a0 true) else (if 0 < (a0.size : Int) then (if (bt a0 0) < 97 then (inspect_isName.j0 k a0 true) else (inspect_isName.j0 k a0 (decide ((bt a0 0) > 122)))) else (none)))
set_option maxHeartbeats 8000000 in
set_option maxRecDepth 100000 in
theorem inspect_isName.calls (k : Nat) (a0 : ByteArray) (r : Bool) (w : World) (h : inspect_isName.f k a0 = some r) :
  Calls Try.prog 71 #[.string a0] w fun e w' => e = .returned (.bool r) ∧ Drawn0 w w' := by
 have H : (if a0.toList = ([] : List UInt8) then (inspect_isName.j0 k a0 true) else (if (a0.size : Int) > 16 then (inspect_isName.j0 k a0 true) else (if 0 < (a0.size : Int) then (if (bt a0 0) < 97 then (inspect_isName.j0 k a0 true) else (inspect_isName.j0 k a0 (decide ((bt a0 0) > 122)))) else (none)))) = some r := h
 clear h
 have HC2 := Aside0.mk H
 clear H
 go_enter Try.func71, Try.ntmps71
 go_upto_region 1 with (fail)
 go_cut [21] (fun v21 wc => ∃ (kq : Nat) (x21_1 : Bool), v21 = .bool x21_1 ∧ Aside0 (inspect_isName.j0 kq a0 x21_1 = some r) ∧ Aside0 (kq ≤ k) ∧ Drawn0 w wc)
 case first =>
  have H := HC2.out
  clear HC2
  by_cases c3 : a0.toList = ([] : List UInt8)
  ·rw [if_pos c3] at H
   have c3b0 : (a0.toList == ([] : List UInt8)) = true := beq_iff_eq.mpr c3
   have c3b1 : (a0.toList != ([] : List UInt8)) = false := bne_eq_false_iff_eq.mpr c3
   clear c3
   (first | rw [c3b0] | (simp only [i64_w, i32_w]; rw [c3b0]) | skip)
   have H' := Aside0.mk H
   clear H
   go_wp2
   go_meet
   case rel => exact ⟨_, (true), zq20, H', ⟨zq44⟩, zq21⟩
  ·rw [if_neg c3] at H
   have c3b0 : (a0.toList == ([] : List UInt8)) = false := beq_eq_false_iff_ne.mpr c3
   have c3b1 : (a0.toList != ([] : List UInt8)) = true := bne_iff_ne.mpr c3
   (first | rw [c3b0] | (simp only [i64_w, i32_w]; rw [c3b0]) | skip)
   by_cases c4 : (a0.size : Int) > 16
   ·rw [if_pos c4] at H
    have c4b0 : decide (16 < (a0.size : Int)) = true := decide_eq_true c4
    have c4b1 : decide (16 < a0.size) = true := decide_eq_true zq18
    clear c4
    have H' := Aside0.mk H
    clear H
    go_wp2
    go_meet
    case rel => exact ⟨_, (true), zq20, H', ⟨zq44⟩, zq21⟩
   ·rw [if_neg c4] at H
    have c4b0 : decide (16 < (a0.size : Int)) = false := decide_eq_false c4
    have c4b1 : decide (16 < a0.size) = false := decide_eq_false zq18
    clear c4
    by_cases c5 : 0 < (a0.size : Int)
    ·rw [if_pos c5] at H
     have c5b0 : decide (0 < (a0.size : Int)) = true := decide_eq_true c5
     have c5b1 : decide (0 < a0.size) = true := decide_eq_true zq18
     clear c5
     by_cases c7 : (bt a0 0) < 97
     ·rw [if_pos c7] at H
      have c7b0 : decide ((bt a0 0) < 97) = true := decide_eq_true c7
      clear c7
      have H' := Aside0.mk H
      clear H
      have p6 : 0 ≤ (0 : Int) := zq18
      have q6 : 0 < a0.size := (by have : (0 : Int) < (a0.size : Int) := of_decide_eq_true zq5; omega)
      have hx6 : ∀ h : 0 < a0.size, ((a0[0]'h).toNat : Int) = bt a0 0 := bt_at a0 0
      clear p6
      have qi6 : (0 < (a0.size : Int)) = True := eq_true (of_decide_eq_true zq5)
      replace q6 := eq_true q6
      go_wp2
      go_meet
      case rel => exact ⟨_, (true), zq20, H', ⟨zq44⟩, zq21⟩
     ·rw [if_neg c7] at H
      have c7b0 : decide ((bt a0 0) < 97) = false := decide_eq_false c7
      clear c7
      have H' := Aside0.mk H
      clear H
      have p6 : 0 ≤ (0 : Int) := zq18
      have q6 : 0 < a0.size := (by have : (0 : Int) < (a0.size : Int) := of_decide_eq_true zq5; omega)
      have hx6 : ∀ h : 0 < a0.size, ((a0[0]'h).toNat : Int) = bt a0 0 := bt_at a0 0
      clear p6
      have qi6 : (0 < (a0.size : Int)) = True := eq_true (of_decide_eq_true zq5)
      replace q6 := eq_true q6
      have p8 : 0 ≤ (0 : Int) := zq18
      have q8 : 0 < a0.size := (by have : (0 : Int) < (a0.size : Int) := of_decide_eq_true zq5; omega)
      have hx8 : ∀ h : 0 < a0.size, ((a0[0]'h).toNat : Int) = bt a0 0 := bt_at a0 0
      clear p8
      have qi8 : (0 < (a0.size : Int)) = True := eq_true (of_decide_eq_true zq5)
      replace q8 := eq_true q8
      go_wp2
      go_meet
      case rel => exact ⟨_, (decide ((bt a0 0) > 122)), zq20, H', ⟨zq44⟩, zq21⟩
    ·rw [if_neg c5] at H
     exact absurd H zq51
 case rest =>
  clear HC2
  try clear p2
  try clear c3
  try clear c3b0
  try clear c3b1
  try clear c4
  try clear c4b0
  try clear c4b1
  try clear c5
  try clear c5b0
  try clear c5b1
  try clear p6 p6
  try clear q6 q6
  try clear hx6
  try clear qi6
  try clear c7
  try clear c7b0
  try clear p8 p8
  try clear q8 q8
  try clear hx8
  try clear qi8
  obtain ⟨kq, x21_1, rfl, HA, HJ1, ⟨mc1, rfl⟩⟩ := hcut
  cases kq with
  | zero => exact absurd HA.out (by simp [inspect_isName.j0])
  | succ kj1 =>
   have H := HA.out
   clear HA
   simp only [inspect_isName.j0] at H
   by_cases c9 : x21_1 = true
   ·subst c9
    have H1 : (some false) = some r := by rw [if_pos rfl] at H; exact H
    clear H
    have H := H1
    clear H1
    obtain rfl := Option.some.inj H
    go_wp2
    go_ret
    exact ⟨zq20, zq21⟩
   ·replace c9 := Bool.eq_false_iff.mpr c9
    subst c9
    have H1 : (inspect_isName.l0 kj1 a0 (a0.size : Int) 0) = some r := by rw [if_neg (show ¬ (false = true) by decide)] at H; exact H
    clear H
    have H := H1
    clear H1
    have H' := Aside0.mk H
    clear H
    go_wp2
    go_loopg [24] kj1 (fun kq v24 w' => ∃ (x24_2 : Int), v24 = .int .i64 x24_2 ∧ Aside0 (inspect_isName.l0 kq a0 (a0.size : Int) x24_2 = some r) ∧ Aside0 (kq ≤ kj1) ∧ Drawn0 w w')
    case atStart => exact ⟨(0), zq20, H', ⟨Nat.le_refl _⟩, zq21⟩
    case round =>
     clear H'
     try clear c1
     try clear p2 p2
     try clear c3
     try clear c3b0
     try clear c3b1
     try clear c4
     try clear c4b0
     try clear c4b1
     try clear c5
     try clear c5b0
     try clear c5b1
     try clear p6 p6
     try clear q6 q6
     try clear hx6
     try clear qi6
     try clear c7
     try clear c7b0
     try clear p8 p8
     try clear q8 q8
     try clear hx8
     try clear qi8
     try clear c9
     obtain ⟨x24_2, rfl, HA, HK2, ⟨m2, rfl⟩⟩ := hrel
     cases gk with
     | zero => exact absurd HA.out (by simp [inspect_isName.l0])
     | succ k2 =>
      have H := HA.out
      clear HA
      simp only [inspect_isName.l0] at H
      by_cases c10 : x24_2 < (a0.size : Int)
      ·rw [if_pos c10] at H
       have c10b0 : decide (x24_2 < (a0.size : Int)) = true := decide_eq_true c10
       clear c10
       by_cases c11 : 0 ≤ x24_2
       ·rw [if_pos c11] at H
        have c11b0 : decide (0 ≤ x24_2) = true := decide_eq_true c11
        clear c11
        by_cases c12 : x24_2 < (a0.size : Int)
        ·rw [if_pos c12] at H
         have c12b0 : decide (x24_2 < (a0.size : Int)) = true := decide_eq_true c12
         clear c12
         by_cases c14 : (bt a0 x24_2) ≥ 97
         ·rw [if_pos c14] at H
          have c14b0 : decide (97 ≤ (bt a0 x24_2)) = true := decide_eq_true c14
          clear c14
          by_cases c15 : (bt a0 x24_2) ≤ 122
          ·rw [if_pos c15] at H
           have c15b0 : decide ((bt a0 x24_2) ≤ 122) = true := decide_eq_true c15
           clear c15
           have H' := Aside0.mk H
           clear H
           have p13 : 0 ≤ (x24_2 : Int) := of_decide_eq_true zq5
           have q13 : x24_2 < (a0.size : Int) := of_decide_eq_true zq5
           have hx13 := bt_at a0 x24_2
           replace p13 := eq_true p13
           replace q13 := eq_true q13
           go_wp2
           go_roundg k2
           case measure => have := HJ1.out; have := HK2.out; omega
           case rel => exact ⟨(wrap64 (x24_2 + 1)), zq20, H', ⟨zq48⟩, zq21⟩
          ·rw [if_neg c15] at H
           have c15b0 : decide ((bt a0 x24_2) ≤ 122) = false := decide_eq_false c15
           clear c15
           by_cases c16 : (bt a0 x24_2) ≥ 48
           ·rw [if_pos c16] at H
            have c16b0 : decide (48 ≤ (bt a0 x24_2)) = true := decide_eq_true c16
            clear c16
            by_cases c17 : (bt a0 x24_2) ≤ 57
            ·rw [if_pos c17] at H
             have c17b0 : decide ((bt a0 x24_2) ≤ 57) = true := decide_eq_true c17
             clear c17
             have H' := Aside0.mk H
             clear H
             have p13 : 0 ≤ (x24_2 : Int) := of_decide_eq_true zq5
             have q13 : x24_2 < (a0.size : Int) := of_decide_eq_true zq5
             have hx13 := bt_at a0 x24_2
             replace p13 := eq_true p13
             replace q13 := eq_true q13
             go_wp2
             go_roundg k2
             case measure => have := HJ1.out; have := HK2.out; omega
             case rel => exact ⟨(wrap64 (x24_2 + 1)), zq20, H', ⟨zq48⟩, zq21⟩
            ·rw [if_neg c17] at H
             have c17b0 : decide ((bt a0 x24_2) ≤ 57) = false := decide_eq_false c17
             clear c17
             by_cases c18 : ((bt a0 x24_2) = 45)
             ·rw [if_pos c18] at H
              have c18b0 : ((bt a0 x24_2) == 45) = true := beq_iff_eq.mpr c18
              have c18b1 : ((bt a0 x24_2) != 45) = false := bne_eq_false_iff_eq.mpr c18
              clear c18
              have H' := Aside0.mk H
              clear H
              have p13 : 0 ≤ (x24_2 : Int) := of_decide_eq_true zq5
              have q13 : x24_2 < (a0.size : Int) := of_decide_eq_true zq5
              have hx13 := bt_at a0 x24_2
              replace p13 := eq_true p13
              replace q13 := eq_true q13
              go_wp2
              go_roundg k2
              case measure => have := HJ1.out; have := HK2.out; omega
              case rel => exact ⟨(wrap64 (x24_2 + 1)), zq20, H', ⟨zq48⟩, zq21⟩
             ·rw [if_neg c18] at H
              have c18b0 : ((bt a0 x24_2) == 45) = false := beq_eq_false_iff_ne.mpr c18
              have c18b1 : ((bt a0 x24_2) != 45) = true := bne_iff_ne.mpr c18
              obtain rfl := Option.some.inj H
              have p13 : 0 ≤ (x24_2 : Int) := of_decide_eq_true zq5
              have q13 : x24_2 < (a0.size : Int) := of_decide_eq_true zq5
              have hx13 := bt_at a0 x24_2
              replace p13 := eq_true p13
              replace q13 := eq_true q13
              go_wp2
              go_ret
              exact ⟨zq20, zq21⟩
           ·rw [if_neg c16] at H
            have c16b0 : decide (48 ≤ (bt a0 x24_2)) = false := decide_eq_false c16
            clear c16
            by_cases c19 : ((bt a0 x24_2) = 45)
            ·rw [if_pos c19] at H
             have c19b0 : ((bt a0 x24_2) == 45) = true := beq_iff_eq.mpr c19
             have c19b1 : ((bt a0 x24_2) != 45) = false := bne_eq_false_iff_eq.mpr c19
             clear c19
             have H' := Aside0.mk H
             clear H
             have p13 : 0 ≤ (x24_2 : Int) := of_decide_eq_true zq5
             have q13 : x24_2 < (a0.size : Int) := of_decide_eq_true zq5
             have hx13 := bt_at a0 x24_2
             replace p13 := eq_true p13
             replace q13 := eq_true q13
             go_wp2
             go_roundg k2
             case measure => have := HJ1.out; have := HK2.out; omega
             case rel => exact ⟨(wrap64 (x24_2 + 1)), zq20, H', ⟨zq48⟩, zq21⟩
            ·rw [if_neg c19] at H
             have c19b0 : ((bt a0 x24_2) == 45) = false := beq_eq_false_iff_ne.mpr c19
             have c19b1 : ((bt a0 x24_2) != 45) = true := bne_iff_ne.mpr c19
             obtain rfl := Option.some.inj H
             have p13 : 0 ≤ (x24_2 : Int) := of_decide_eq_true zq5
             have q13 : x24_2 < (a0.size : Int) := of_decide_eq_true zq5
             have hx13 := bt_at a0 x24_2
             replace p13 := eq_true p13
             replace q13 := eq_true q13
             go_wp2
             go_ret
             exact ⟨zq20, zq21⟩
         ·rw [if_neg c14] at H
          have c14b0 : decide (97 ≤ (bt a0 x24_2)) = false := decide_eq_false c14
          clear c14
          by_cases c20 : (bt a0 x24_2) ≥ 48
          ·rw [if_pos c20] at H
           have c20b0 : decide (48 ≤ (bt a0 x24_2)) = true := decide_eq_true c20
           clear c20
           by_cases c21 : (bt a0 x24_2) ≤ 57
           ·rw [if_pos c21] at H
            have c21b0 : decide ((bt a0 x24_2) ≤ 57) = true := decide_eq_true c21
            clear c21
            have H' := Aside0.mk H
            clear H
            have p13 : 0 ≤ (x24_2 : Int) := of_decide_eq_true zq5
            have q13 : x24_2 < (a0.size : Int) := of_decide_eq_true zq5
            have hx13 := bt_at a0 x24_2
            replace p13 := eq_true p13
            replace q13 := eq_true q13
            go_wp2
            go_roundg k2
            case measure => have := HJ1.out; have := HK2.out; omega
            case rel => exact ⟨(wrap64 (x24_2 + 1)), zq20, H', ⟨zq48⟩, zq21⟩
           ·rw [if_neg c21] at H
            have c21b0 : decide ((bt a0 x24_2) ≤ 57) = false := decide_eq_false c21
            clear c21
            by_cases c22 : ((bt a0 x24_2) = 45)
            ·rw [if_pos c22] at H
             have c22b0 : ((bt a0 x24_2) == 45) = true := beq_iff_eq.mpr c22
             have c22b1 : ((bt a0 x24_2) != 45) = false := bne_eq_false_iff_eq.mpr c22
             clear c22
             have H' := Aside0.mk H
             clear H
             have p13 : 0 ≤ (x24_2 : Int) := of_decide_eq_true zq5
             have q13 : x24_2 < (a0.size : Int) := of_decide_eq_true zq5
             have hx13 := bt_at a0 x24_2
             replace p13 := eq_true p13
             replace q13 := eq_true q13
             go_wp2
             go_roundg k2
             case measure => have := HJ1.out; have := HK2.out; omega
             case rel => exact ⟨(wrap64 (x24_2 + 1)), zq20, H', ⟨zq48⟩, zq21⟩
            ·rw [if_neg c22] at H
             have c22b0 : ((bt a0 x24_2) == 45) = false := beq_eq_false_iff_ne.mpr c22
             have c22b1 : ((bt a0 x24_2) != 45) = true := bne_iff_ne.mpr c22
             obtain rfl := Option.some.inj H
             have p13 : 0 ≤ (x24_2 : Int) := of_decide_eq_true zq5
             have q13 : x24_2 < (a0.size : Int) := of_decide_eq_true zq5
             have hx13 := bt_at a0 x24_2
             replace p13 := eq_true p13
             replace q13 := eq_true q13
             go_wp2
             go_ret
             exact ⟨zq20, zq21⟩
          ·rw [if_neg c20] at H
           have c20b0 : decide (48 ≤ (bt a0 x24_2)) = false := decide_eq_false c20
           clear c20
           by_cases c23 : ((bt a0 x24_2) = 45)
           ·rw [if_pos c23] at H
            have c23b0 : ((bt a0 x24_2) == 45) = true := beq_iff_eq.mpr c23
            have c23b1 : ((bt a0 x24_2) != 45) = false := bne_eq_false_iff_eq.mpr c23
            clear c23
            have H' := Aside0.mk H
            clear H
            have p13 : 0 ≤ (x24_2 : Int) := of_decide_eq_true zq5
            have q13 : x24_2 < (a0.size : Int) := of_decide_eq_true zq5
            have hx13 := bt_at a0 x24_2
            replace p13 := eq_true p13
            replace q13 := eq_true q13
            go_wp2
            go_roundg k2
            case measure => have := HJ1.out; have := HK2.out; omega
            case rel => exact ⟨(wrap64 (x24_2 + 1)), zq20, H', ⟨zq48⟩, zq21⟩
           ·rw [if_neg c23] at H
            have c23b0 : ((bt a0 x24_2) == 45) = false := beq_eq_false_iff_ne.mpr c23
            have c23b1 : ((bt a0 x24_2) != 45) = true := bne_iff_ne.mpr c23
            obtain rfl := Option.some.inj H
            have p13 : 0 ≤ (x24_2 : Int) := of_decide_eq_true zq5
            have q13 : x24_2 < (a0.size : Int) := of_decide_eq_true zq5
            have hx13 := bt_at a0 x24_2
            replace p13 := eq_true p13
            replace q13 := eq_true q13
            go_wp2
            go_ret
            exact ⟨zq20, zq21⟩
        ·rw [if_neg c12] at H
         exact absurd H zq51
       ·rw [if_neg c11] at H
        exact absurd H zq51
      ·rw [if_neg c10] at H
       have c10b0 : decide (x24_2 < (a0.size : Int)) = false := decide_eq_false c10
       clear c10
       obtain rfl := Option.some.inj H
       go_wp2
       go_ret
       exact ⟨zq20, zq21⟩
def idxOf {α : Type} (p : α → Bool) : List α → Int
 | [] => -1
 | x :: l => if p x then 0 else if idxOf p l < 0 then -1 else idxOf p l + 1
theorem idxOf_lo {α : Type} (p : α → Bool) : ∀ l : List α, -1 ≤ idxOf p l ∧ idxOf p l < l.length
 | [] => by simp [idxOf]
 | x :: l => by
  have ih := idxOf_lo p l
  unfold idxOf
  simp only [List.length_cons]
  split
  ·omega
  ·split <;> omega
theorem idxOf_hit {α : Type} (p : α → Bool) (z : α) : ∀ (l : List α) (k : Nat), k < l.length → (∀ j, j < k → p (l.getD j z) = false) → p (l.getD k z) = true → idxOf p l = k
 | [], k, h, _, _ => by simp at h
 | x :: l, 0, _, _, h => by simp [idxOf] at h ⊢; simp [h]
 | x :: l, k + 1, h, ha, hk => by
  have h0 := ha 0 zq18
  have ih := idxOf_hit p z l k (by simpa using h) (fun j hj => by have := ha (j + 1) zq18; simpa using this) (by simpa using hk)
  have h0' : p x = false := by simpa using h0
  unfold idxOf
  rw [h0', ih]
  simp
  omega
theorem idxOf_miss {α : Type} (p : α → Bool) (z : α) : ∀ (l : List α), (∀ j, j < l.length → p (l.getD j z) = false) → idxOf p l = -1
 | [], _ => rfl
 | x :: l, ha => by
  have h0 := ha 0 zq51
  have ih := idxOf_miss p z l (fun j hj => by have := ha (j + 1) (by simpa using hj); simpa using this)
  have h0' : p x = false := by simpa using h0
  unfold idxOf
  rw [h0', ih]
  simp
theorem idxOf_any {α : Type} (p : α → Bool) : ∀ l : List α, decide (idxOf p l ≥ 0) = l.any p
 | [] => by simp [idxOf]
 | x :: l => by
  have ih := idxOf_any p l
  have hb := idxOf_lo p l
  unfold idxOf
  rw [List.any_cons, ← ih]
  cases hx : p x
  ·simp
   split <;> omega
  ·simp
set_option maxHeartbeats 2000000 in
set_option maxRecDepth 100000 in
theorem Idx63 (p : S68 → Bool) (g : Nat) (lb : Array Value) (eg : ∀ args w, (callFunc g args).run Try.prog w = .ok (.enter g args) w) (A : Option Addr) (c : Nat) (l : List S68) (w : World) (hr : Kd.C k68 w A l.length l)
  (hp : ∀ (W : World) (x : S68), Below w.heap.size w W → Calls Try.prog g (#[.agg #[.int .i64 x.f0, .int .i64 x.f1, .int .i64 x.f2]] ++ lb) W fun e w' => e = .returned (.bool (p x)) ∧ Below w.heap.size w w') :
  Calls Try.prog 63 #[.slice A l.length c, .func (.func g) #[] lb] w fun e w' => e = .returned (.int .i64 (idxOf p l)) ∧ Below w.heap.size w w' := by
 have hm := Kd.C_max hr
 have HR := Aside0.mk hr
 have HP := Aside0.mk hp
 clear hr hp
 go_enter Try.func63, Try.ntmps63
 go_wp2
 go_loopg [5, 8] l.length (fun gg _ s8 wr => ∃ i : Int, Aside0 (0 ≤ i ∧ i ≤ l.length ∧ l.length - i ≤ gg) ∧ s8 = .int .i64 i ∧ Aside0 (Below w.heap.size w wr) ∧ Aside0 (∀ j : Nat, (j : Int) < i → p (l.getD j z68) = false))
 case atStart => exact ⟨0, ⟨zq18, zq18, zq18⟩, rfl, ⟨Below.refl _ w⟩, ⟨fun j hj => absurd hj zq18⟩⟩
 case round =>
  obtain ⟨i, hi, rfl, BW, HA⟩ := hrel
  have hi0 := hi.out.1
  by_cases hlt : i < (l.length : Int)
  ·obtain ⟨ad, e, hx0, hx1, hx2⟩ := at_T68 HR.out i hi0 hlt
   cases e
   replace hx0 := (BW.out.cell (World.block_lt_of_cell? w _ hx0)).trans hx0
   replace hx1 := (BW.out.cell (World.block_lt_of_cell? w _ hx1)).trans hx1
   replace hx2 := (BW.out.cell (World.block_lt_of_cell? w _ hx2)).trans hx2
   have hcall := HP.out wr (rd_T68 l i) BW.out
   cases hq : p (rd_T68 l i) with
   | true =>
    rw [hq] at hcall
    have HQ := Aside0.mk hq
    clear hq
    go_wp2_with (go_at_fn g; refine hcall.mono ?_; rintro e w' ⟨rfl, hb'⟩)
    go_ret
    refine ⟨?_, hb'⟩
    have hi' := hi.out
    rw [idxOf_hit p z68 l i.toNat zq18 (fun j hj => HA.out j zq18) HQ.out, show ((i.toNat : Nat) : Int) = i by omega]
    rfl
   | false =>
    rw [hq] at hcall
    have HQ := Aside0.mk hq
    clear hq
    go_wp2_with (go_at_fn g; refine hcall.mono ?_; rintro e w' ⟨rfl, hb'⟩)
    go_roundg (l.length - (i + 1)).toNat
    case measure => have := hi.out; omega
    case rel =>
     refine ⟨i + 1, ⟨zq57⟩, zq54, ⟨hb'⟩, ⟨fun j hj => ?_⟩⟩
     by_cases e : (j : Int) = i
     ·subst e
      simpa [rd_T68] using HQ.out
     ·exact HA.out j zq18
  ·have hb : decide (i < (l.length : Int)) = false := decide_eq_false hlt
   go_wp2
   go_ret
   refine ⟨?_, BW.out⟩
   rw [idxOf_miss p z68 l (fun j hj => HA.out j zq57)]
   rfl
set_option maxHeartbeats 2000000 in
set_option maxRecDepth 100000 in
theorem Idx84 (p : S58 → Bool) (g : Nat) (lb : Array Value) (eg : ∀ args w, (callFunc g args).run Try.prog w = .ok (.enter g args) w) (A : Option Addr) (c : Nat) (l : List S58) (w : World) (hr : Kd.C k58 w A l.length l)
  (hp : ∀ (W : World) (x : S58), Below w.heap.size w W → Calls Try.prog g (#[.agg #[.string x.f0, .int .i64 x.f1]] ++ lb) W fun e w' => e = .returned (.bool (p x)) ∧ Below w.heap.size w w') :
  Calls Try.prog 84 #[.slice A l.length c, .func (.func g) #[] lb] w fun e w' => e = .returned (.int .i64 (idxOf p l)) ∧ Below w.heap.size w w' := by
 have hm := Kd.C_max hr
 have HR := Aside0.mk hr
 have HP := Aside0.mk hp
 clear hr hp
 go_enter Try.func84, Try.ntmps84
 go_wp2
 go_loopg [5, 8] l.length (fun gg _ s8 wr => ∃ i : Int, Aside0 (0 ≤ i ∧ i ≤ l.length ∧ l.length - i ≤ gg) ∧ s8 = .int .i64 i ∧ Aside0 (Below w.heap.size w wr) ∧ Aside0 (∀ j : Nat, (j : Int) < i → p (l.getD j z58) = false))
 case atStart => exact ⟨0, ⟨zq18, zq18, zq18⟩, rfl, ⟨Below.refl _ w⟩, ⟨fun j hj => absurd hj zq18⟩⟩
 case round =>
  obtain ⟨i, hi, rfl, BW, HA⟩ := hrel
  have hi0 := hi.out.1
  by_cases hlt : i < (l.length : Int)
  ·obtain ⟨ad, e, hx0, hx1⟩ := at_T58 HR.out i hi0 hlt
   cases e
   replace hx0 := (BW.out.cell (World.block_lt_of_cell? w _ hx0)).trans hx0
   replace hx1 := (BW.out.cell (World.block_lt_of_cell? w _ hx1)).trans hx1
   have hcall := HP.out wr (rd_T58 l i) BW.out
   cases hq : p (rd_T58 l i) with
   | true =>
    rw [hq] at hcall
    have HQ := Aside0.mk hq
    clear hq
    go_wp2_with (go_at_fn g; refine hcall.mono ?_; rintro e w' ⟨rfl, hb'⟩)
    go_ret
    refine ⟨?_, hb'⟩
    have hi' := hi.out
    rw [idxOf_hit p z58 l i.toNat zq18 (fun j hj => HA.out j zq18) HQ.out, show ((i.toNat : Nat) : Int) = i by omega]
    rfl
   | false =>
    rw [hq] at hcall
    have HQ := Aside0.mk hq
    clear hq
    go_wp2_with (go_at_fn g; refine hcall.mono ?_; rintro e w' ⟨rfl, hb'⟩)
    go_roundg (l.length - (i + 1)).toNat
    case measure => have := hi.out; omega
    case rel =>
     refine ⟨i + 1, ⟨zq57⟩, zq54, ⟨hb'⟩, ⟨fun j hj => ?_⟩⟩
     by_cases e : (j : Int) = i
     ·subst e
      simpa [rd_T58] using HQ.out
     ·exact HA.out j zq18
  ·have hb : decide (i < (l.length : Int)) = false := decide_eq_false hlt
   go_wp2
   go_ret
   refine ⟨?_, BW.out⟩
   rw [idxOf_miss p z58 l (fun j hj => HA.out j zq57)]
   rfl
set_option maxHeartbeats 2000000 in
set_option maxRecDepth 100000 in
theorem Idx85 (p : S56 → Bool) (g : Nat) (lb : Array Value) (eg : ∀ args w, (callFunc g args).run Try.prog w = .ok (.enter g args) w) (A : Option Addr) (c : Nat) (l : List S56) (w : World) (hr : Kd.C k56 w A l.length l)
  (hp : ∀ (W : World) (x : S56) (A1 : Option Addr) (cA1 : Nat), Below w.heap.size w W → Calls Try.prog g (#[.agg #[.string x.f0, .slice A1 x.f1.length cA1]] ++ lb) W fun e w' => e = .returned (.bool (p x)) ∧ Below w.heap.size w w') :
  Calls Try.prog 85 #[.slice A l.length c, .func (.func g) #[] lb] w fun e w' => e = .returned (.int .i64 (idxOf p l)) ∧ Below w.heap.size w w' := by
 have hm := Kd.C_max hr
 have HR := Aside0.mk hr
 have HP := Aside0.mk hp
 clear hr hp
 go_enter Try.func85, Try.ntmps85
 go_wp2
 go_loopg [5, 8] l.length (fun gg _ s8 wr => ∃ i : Int, Aside0 (0 ≤ i ∧ i ≤ l.length ∧ l.length - i ≤ gg) ∧ s8 = .int .i64 i ∧ Aside0 (Below w.heap.size w wr) ∧ Aside0 (∀ j : Nat, (j : Int) < i → p (l.getD j z56) = false))
 case atStart => exact ⟨0, ⟨zq18, zq18, zq18⟩, rfl, ⟨Below.refl _ w⟩, ⟨fun j hj => absurd hj zq18⟩⟩
 case round =>
  obtain ⟨i, hi, rfl, BW, HA⟩ := hrel
  have hi0 := hi.out.1
  by_cases hlt : i < (l.length : Int)
  ·obtain ⟨ad, A1, c1, e, hx0, hx1, hl1, hi1⟩ := at_T56 HR.out i hi0 hlt
   cases e
   replace hx0 := (BW.out.cell (World.block_lt_of_cell? w _ hx0)).trans hx0
   replace hx1 := (BW.out.cell (World.block_lt_of_cell? w _ hx1)).trans hx1
   have hcall := HP.out wr (rd_T56 l i) A1 c1 BW.out
   cases hq : p (rd_T56 l i) with
   | true =>
    rw [hq] at hcall
    have HQ := Aside0.mk hq
    clear hq
    go_wp2_with (go_at_fn g; refine hcall.mono ?_; rintro e w' ⟨rfl, hb'⟩)
    go_ret
    refine ⟨?_, hb'⟩
    have hi' := hi.out
    rw [idxOf_hit p z56 l i.toNat zq18 (fun j hj => HA.out j zq18) HQ.out, show ((i.toNat : Nat) : Int) = i by omega]
    rfl
   | false =>
    rw [hq] at hcall
    have HQ := Aside0.mk hq
    clear hq
    go_wp2_with (go_at_fn g; refine hcall.mono ?_; rintro e w' ⟨rfl, hb'⟩)
    go_roundg (l.length - (i + 1)).toNat
    case measure => have := hi.out; omega
    case rel =>
     refine ⟨i + 1, ⟨zq57⟩, zq54, ⟨hb'⟩, ⟨fun j hj => ?_⟩⟩
     by_cases e : (j : Int) = i
     ·subst e
      simpa [rd_T56] using HQ.out
     ·exact HA.out j zq18
  ·have hb : decide (i < (l.length : Int)) = false := decide_eq_false hlt
   go_wp2
   go_ret
   refine ⟨?_, BW.out⟩
   rw [idxOf_miss p z56 l (fun j hj => HA.out j zq57)]
   rfl
set_option maxHeartbeats 2000000 in
set_option maxRecDepth 100000 in
theorem Has86 (p : S68 → Bool) (g : Nat) (lb : Array Value) (eg : ∀ args w, (callFunc g args).run Try.prog w = .ok (.enter g args) w) (A : Option Addr) (c : Nat) (l : List S68) (w : World) (hr : Kd.C k68 w A l.length l)
  (hp : ∀ (W : World) (x : S68), Below w.heap.size w W → Calls Try.prog g (#[.agg #[.int .i64 x.f0, .int .i64 x.f1, .int .i64 x.f2]] ++ lb) W fun e w' => e = .returned (.bool (p x)) ∧ Below w.heap.size w w') :
  Calls Try.prog 86 #[.slice A l.length c, .func (.func g) #[] lb] w fun e w' => e = .returned (.bool (l.any p)) ∧ Below w.heap.size w w' := by
 rw [← idxOf_any p l]
 have hx := Idx63 p g lb eg A c l w hr hp
 clear hr hp
 go_enter Try.func86, Try.ntmps86
 go_wp2_with (go_at_call 63; refine hx.mono ?_; rintro e w' ⟨rfl, hb'⟩)
 go_ret
 exact ⟨rfl, hb'⟩
set_option maxHeartbeats 2000000 in
set_option maxRecDepth 100000 in
theorem Has72 (p : S58 → Bool) (g : Nat) (lb : Array Value) (eg : ∀ args w, (callFunc g args).run Try.prog w = .ok (.enter g args) w) (A : Option Addr) (c : Nat) (l : List S58) (w : World) (hr : Kd.C k58 w A l.length l)
  (hp : ∀ (W : World) (x : S58), Below w.heap.size w W → Calls Try.prog g (#[.agg #[.string x.f0, .int .i64 x.f1]] ++ lb) W fun e w' => e = .returned (.bool (p x)) ∧ Below w.heap.size w w') :
  Calls Try.prog 72 #[.slice A l.length c, .func (.func g) #[] lb] w fun e w' => e = .returned (.bool (l.any p)) ∧ Below w.heap.size w w' := by
 rw [← idxOf_any p l]
 have hx := Idx84 p g lb eg A c l w hr hp
 clear hr hp
 go_enter Try.func72, Try.ntmps72
 go_wp2_with (go_at_call 84; refine hx.mono ?_; rintro e w' ⟨rfl, hb'⟩)
 go_ret
 exact ⟨rfl, hb'⟩
set_option maxHeartbeats 2000000 in
set_option maxRecDepth 100000 in
theorem Has74 (p : S56 → Bool) (g : Nat) (lb : Array Value) (eg : ∀ args w, (callFunc g args).run Try.prog w = .ok (.enter g args) w) (A : Option Addr) (c : Nat) (l : List S56) (w : World) (hr : Kd.C k56 w A l.length l)
  (hp : ∀ (W : World) (x : S56) (A1 : Option Addr) (cA1 : Nat), Below w.heap.size w W → Calls Try.prog g (#[.agg #[.string x.f0, .slice A1 x.f1.length cA1]] ++ lb) W fun e w' => e = .returned (.bool (p x)) ∧ Below w.heap.size w w') :
  Calls Try.prog 74 #[.slice A l.length c, .func (.func g) #[] lb] w fun e w' => e = .returned (.bool (l.any p)) ∧ Below w.heap.size w w' := by
 rw [← idxOf_any p l]
 have hx := Idx85 p g lb eg A c l w hr hp
 clear hr hp
 go_enter Try.func74, Try.ntmps74
 go_wp2_with (go_at_call 85; refine hx.mono ?_; rintro e w' ⟨rfl, hb'⟩)
 go_ret
 exact ⟨rfl, hb'⟩
set_option maxRecDepth 100000 in
theorem clo64 (x : S68)  (gb : Nat) (y0 : Int) (w : World) (hbx : w.heap[gb]? = some (.cells #[.int .i64 y0] 3 (0, 0))) :
  Calls Try.prog 64 #[.agg #[.int .i64 x.f0, .int .i64 x.f1, .int .i64 x.f2], .pointer (some ⟨gb, 0, none⟩)] w fun e w' => e = .returned (.bool (x.f0 == y0)) ∧ Below w.heap.size w w' := by
 have HX := Aside0.mk hbx
 clear hbx
 go_enter Try.func64, Try.ntmps64
 go_wp2_with ((with_reducible refine gate_dst (N := 2) rfl ?_); refine box_event ?hg (N := 2) ?hd (cs := #[.int .i64 x.f0, .int .i64 x.f1, .int .i64 x.f2]) (t := 68) ?hr ?_; (case hd => rfl); (case hg => rfl); (case hr => exact zq13); intro g0 hg w1 hbox hb; have hc0 : w1.cell? ⟨g0, 0, none⟩ = some (.int .i64 x.f0) := (blk_cell hbox 0).trans rfl; have hc1 : w1.cell? ⟨gb, 0, none⟩ = some (.int .i64 y0) := (blk_cell (blk_below HX.out hb) 0).trans rfl; have HB := Aside0.mk hb; clear hg hbox hb)
 go_ret
 exact ⟨rfl, HB.out⟩
set_option maxRecDepth 100000 in
theorem clo87 (x : S68)  (gb : Nat) (y0 : Int) (y1 : Int) (y2 : Int) (w : World) (hbx : w.heap[gb]? = some (.cells #[.int .i64 y0, .int .i64 y1, .int .i64 y2] 68 (0, 0))) :
  Calls Try.prog 87 #[.agg #[.int .i64 x.f0, .int .i64 x.f1, .int .i64 x.f2], .pointer (some ⟨gb, 0, none⟩)] w fun e w' => e = .returned (.bool (x.f0 == y0)) ∧ Below w.heap.size w w' := by
 have HX := Aside0.mk hbx
 clear hbx
 go_enter Try.func87, Try.ntmps87
 go_wp2_with ((with_reducible refine gate_dst (N := 2) rfl ?_); refine box_event ?hg (N := 2) ?hd (cs := #[.int .i64 x.f0, .int .i64 x.f1, .int .i64 x.f2]) (t := 68) ?hr ?_; (case hd => rfl); (case hg => rfl); (case hr => exact zq13); intro g0 hg w1 hbox hb; have hc0 : w1.cell? ⟨g0, 0, none⟩ = some (.int .i64 x.f0) := (blk_cell hbox 0).trans rfl; have hc1 : w1.cell? ⟨gb, 0, none⟩ = some (.int .i64 y0) := (blk_cell (blk_below HX.out hb) 0).trans rfl; have HB := Aside0.mk hb; clear hg hbox hb)
 go_ret
 exact ⟨rfl, HB.out⟩
set_option maxRecDepth 100000 in
theorem clo73 (x : S58)  (gb : Nat) (y0 : ByteArray) (y1 : Int) (w : World) (hbx : w.heap[gb]? = some (.cells #[.string y0, .int .i64 y1] 58 (0, 0))) :
  Calls Try.prog 73 #[.agg #[.string x.f0, .int .i64 x.f1], .pointer (some ⟨gb, 0, none⟩)] w fun e w' => e = .returned (.bool (x.f0.toList == y0.toList)) ∧ Below w.heap.size w w' := by
 have HX := Aside0.mk hbx
 clear hbx
 go_enter Try.func73, Try.ntmps73
 go_wp2_with ((with_reducible refine gate_dst (N := 2) rfl ?_); refine box_event ?hg (N := 2) ?hd (cs := #[.string x.f0, .int .i64 x.f1]) (t := 58) ?hr ?_; (case hd => rfl); (case hg => rfl); (case hr => exact zq13); intro g0 hg w1 hbox hb; have hc0 : w1.cell? ⟨g0, 0, none⟩ = some (.string x.f0) := (blk_cell hbox 0).trans rfl; have hc1 : w1.cell? ⟨gb, 0, none⟩ = some (.string y0) := (blk_cell (blk_below HX.out hb) 0).trans rfl; have HB := Aside0.mk hb; clear hg hbox hb)
 go_ret
 exact ⟨rfl, HB.out⟩
set_option maxRecDepth 100000 in
theorem clo75 (x : S56) (A1 : Option Addr) (cA1 : Nat) (gb : Nat) (y0 : ByteArray) (B1 : Option Addr) (d1 : Nat) (y1 : List S68) (w : World) (hbx : w.heap[gb]? = some (.cells #[.string y0, .slice B1 y1.length d1] 56 (0, 0))) :
  Calls Try.prog 75 #[.agg #[.string x.f0, .slice A1 x.f1.length cA1], .pointer (some ⟨gb, 0, none⟩)] w fun e w' => e = .returned (.bool (x.f0.toList == y0.toList)) ∧ Below w.heap.size w w' := by
 have HX := Aside0.mk hbx
 clear hbx
 go_enter Try.func75, Try.ntmps75
 go_wp2_with ((with_reducible refine gate_dst (N := 2) rfl ?_); refine box_event ?hg (N := 2) ?hd (cs := #[.string x.f0, .slice A1 x.f1.length cA1]) (t := 56) ?hr ?_; (case hd => rfl); (case hg => rfl); (case hr => exact zq13); intro g0 hg w1 hbox hb; have hc0 : w1.cell? ⟨g0, 0, none⟩ = some (.string x.f0) := (blk_cell hbox 0).trans rfl; have hc1 : w1.cell? ⟨gb, 0, none⟩ = some (.string y0) := (blk_cell (blk_below HX.out hb) 0).trans rfl; have HB := Aside0.mk hb; clear hg hbox hb)
 go_ret
 exact ⟨rfl, HB.out⟩
def IdxClaim.f (l : List S68) (y0 : Int) : Option Int := some (idxOf (fun x : S68 => x.f0 == y0) l)
theorem IdxClaim.calls (A : Option Addr) (c : Nat) (l : List S68) (gb : Nat) (y0 : Int) (r : Int) (w : World) (hr : Kd.C k68 w A l.length l) (hc : l.length ≤ c) (hbx : w.heap[gb]? = some (.cells #[.int .i64 y0] 3 (0, 0))) (h : IdxClaim.f l y0 = some r) :
  Calls Try.prog 63 #[.slice A l.length c, .func (.func 64) #[] #[.pointer (some ⟨gb, 0, none⟩)]] w fun e w' => e = .returned (.int .i64 r) ∧ Below w.heap.size w w' := by
 obtain rfl : idxOf (fun x : S68 => x.f0 == y0) l = r := Option.some.inj h
 exact Idx63 _ 64 _ (enters_of Try.func64 zq26 rfl) A c l w hr (fun W x hb => (clo64 x gb y0 W (blk_below hbx hb)).mono fun _ _ ⟨e1, h1⟩ => ⟨e1, below_step hb h1⟩)
def HasClaim.f (l : List S68) (y0 : Int) (y1 : Int) (y2 : Int) : Option Bool := some (l.any (fun x : S68 => x.f0 == y0))
theorem HasClaim.calls (A : Option Addr) (c : Nat) (l : List S68) (gb : Nat) (y0 : Int) (y1 : Int) (y2 : Int) (r : Bool) (w : World) (hr : Kd.C k68 w A l.length l) (hc : l.length ≤ c) (hbx : w.heap[gb]? = some (.cells #[.int .i64 y0, .int .i64 y1, .int .i64 y2] 68 (0, 0))) (h : HasClaim.f l y0 y1 y2 = some r) :
  Calls Try.prog 86 #[.slice A l.length c, .func (.func 87) #[] #[.pointer (some ⟨gb, 0, none⟩)]] w fun e w' => e = .returned (.bool r) ∧ Below w.heap.size w w' := by
 obtain rfl : l.any (fun x : S68 => x.f0 == y0) = r := Option.some.inj h
 exact Has86 _ 87 _ (enters_of Try.func87 zq26 rfl) A c l w hr (fun W x hb => (clo87 x gb y0 y1 y2 W (blk_below hbx hb)).mono fun _ _ ⟨e1, h1⟩ => ⟨e1, below_step hb h1⟩)
def HasFlaw.f (l : List S58) (y0 : ByteArray) (y1 : Int) : Option Bool := some (l.any (fun x : S58 => x.f0.toList == y0.toList))
theorem HasFlaw.calls (A : Option Addr) (c : Nat) (l : List S58) (gb : Nat) (y0 : ByteArray) (y1 : Int) (r : Bool) (w : World) (hr : Kd.C k58 w A l.length l) (hc : l.length ≤ c) (hbx : w.heap[gb]? = some (.cells #[.string y0, .int .i64 y1] 58 (0, 0))) (h : HasFlaw.f l y0 y1 = some r) :
  Calls Try.prog 72 #[.slice A l.length c, .func (.func 73) #[] #[.pointer (some ⟨gb, 0, none⟩)]] w fun e w' => e = .returned (.bool r) ∧ Below w.heap.size w w' := by
 obtain rfl : l.any (fun x : S58 => x.f0.toList == y0.toList) = r := Option.some.inj h
 exact Has72 _ 73 _ (enters_of Try.func73 zq26 rfl) A c l w hr (fun W x hb => (clo73 x gb y0 y1 W (blk_below hbx hb)).mono fun _ _ ⟨e1, h1⟩ => ⟨e1, below_step hb h1⟩)
def HasStand.f (l : List S56) (y0 : ByteArray) (y1 : List S68) : Option Bool := some (l.any (fun x : S56 => x.f0.toList == y0.toList))
theorem HasStand.calls (A : Option Addr) (c : Nat) (l : List S56) (gb : Nat) (y0 : ByteArray) (B1 : Option Addr) (d1 : Nat) (y1 : List S68) (r : Bool) (w : World) (hr : Kd.C k56 w A l.length l) (hc : l.length ≤ c) (hbx : w.heap[gb]? = some (.cells #[.string y0, .slice B1 y1.length d1] 56 (0, 0))) (h : HasStand.f l y0 y1 = some r) :
  Calls Try.prog 74 #[.slice A l.length c, .func (.func 75) #[] #[.pointer (some ⟨gb, 0, none⟩)]] w fun e w' => e = .returned (.bool r) ∧ Below w.heap.size w w' := by
 obtain rfl : l.any (fun x : S56 => x.f0.toList == y0.toList) = r := Option.some.inj h
 exact Has74 _ 75 _ (enters_of Try.func75 zq26 rfl) A c l w hr (fun W x A1 cA1 hb => (clo75 x A1 cA1 gb y0 B1 d1 y1 W (blk_below hbx hb)).mono fun _ _ ⟨e1, h1⟩ => ⟨e1, below_step hb h1⟩)
end Go.Proofs.Ytbpebehbfpgjbaa.P
end
