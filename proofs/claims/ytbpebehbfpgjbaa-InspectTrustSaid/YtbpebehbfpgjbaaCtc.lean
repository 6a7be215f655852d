/- Texts of the proof, joined: what they prove stands at each theorem. -/
import Derived.WideKeyEntry
import Derived.Maps.OwnRows
import Derived.Maps.Range
import Derived.Shelf.Small.Bits
import Derived.Shelf.Strconv.Itoa0
import Derived.Shelf.Sort.Plain
import Derived.Shelf.Bits.Mul64
import Derived.Ground.Names2Prog
import Derived.Shelf.Slices.SearchI
import Derived.Shelf.Slices.In.SortNone
import Derived.Shelf.Slices.Empties
import Derived.Test.YtbpebehbfpgjbaaProg
import Derived.ChangeArms
import Derived.ChangeSlices
import Derived.Test.YtbpebehbfpgjbaaCta
import Derived.Test.YtbpebehbfpgjbaaCtb
section
namespace Go.Proofs.Ytbpebehbfpgjbaa.GM
open Go.RowKit Go.Proofs.YtbpebehbfpgjbaaW.PrintWords Go.Proofs.YtbpebehbfpgjbaaW.PrintLast Go.Proofs.YtbpebehbfpgjbaaW.PrintMore
open Go.ChangeMaps Go.MapKept
open Go.WideElems (findIdx_born findIdx_arr modify_last set_self)
open Go.Maps (Keyed)
set_option linter.unusedVariables false
set_option linter.unusedSimpArgs false
variable {P : Program} {kt E t : TypeId} {e : TypeId} {q : IntKind}
def Groups (P : Program) (kt e : TypeId) (q : IntKind) (W : World) (base b : Nat) (f : Value → List Int) : Prop :=
 ∃ es clock, W.heap[b]? = some (.map es clock) ∧ Stamped es clock ∧
  (∀ x ∈ es.toList, (∃ l, keyOf P kt x.key = some l) ∧ f x.key ≠ [] ∧ W.ownsRow base e 1 x.val (f x.key).length (nums q (f x.key))) ∧
  (∀ key, f key ≠ [] → ∃ x ∈ es.toList, x.key = key) ∧
  (∀ x ∈ es.toList, ∀ y ∈ es.toList, x.key ≠ y.key → x.val.ownBlock = none ∨ x.val.ownBlock ≠ y.val.ownBlock)
theorem inj_of_nodup_map {α β : Type} {f : α → β} : ∀ {l : List α}, (l.map f).Nodup → ∀ {x y : α}, x ∈ l → y ∈ l → f x = f y → x = y
 | [], _, _, _, hx, _, _ => by simp at hx
 | a :: l, h, x, y, hx, hy, e => by
  rw [List.map_cons, List.nodup_cons] at h
  rcases List.mem_cons.1 hx with h1 | h1 <;> rcases List.mem_cons.1 hy with h2 | h2
  ·rw [h1, h2]
  ·exact absurd (List.mem_map.2 ⟨y, h2, by rw [← e, h1]⟩) h.1
  ·exact absurd (List.mem_map.2 ⟨x, h1, by rw [e, h2]⟩) h.1
  ·exact inj_of_nodup_map h.2 h1 h2 e
theorem nodup_of_map {α β : Type} {f : α → β} : ∀ {l : List α}, (l.map f).Nodup → l.Nodup
 | [], _ => List.nodup_nil
 | a :: l, h => by
  rw [List.map_cons, List.nodup_cons] at h
  exact List.nodup_cons.2 ⟨fun hm => h.1 (List.mem_map.2 ⟨a, hm, rfl⟩), nodup_of_map h.2⟩
theorem blk_alloc' {W : World} {b : Nat} (hb : b < W.heap.size) (o' : Obj) : (W.alloc o').heap[b]? = W.heap[b]? := Below.heap_alloc W o' b hb
theorem Groups.made (W : World) (base : Nat) : Groups P kt e q (W.alloc (.map #[] 0)) base W.heap.size (fun _ => []) :=
 ⟨#[], 0, blk_new W _, stamped_empty 0, by simp, fun _ h => absurd rfl h, by simp⟩
theorem own_notmap {W : World} {base : Nat} {v : Value} {n : Nat} {xs : List Value} {b : Nat} {es : Array MapEntry} {clock : Nat} (h : W.ownsRow base e 1 v n xs) (hb : W.heap[b]? = some (.map es clock)) : v.ownBlock ≠ some b := by
 intro hk
 obtain ⟨cells, hc⟩ := own_typed h b hk
 rw [hc] at hb
 cases hb
theorem Groups.move {W W' : World} {base b : Nat} {f : Value → List Int} (h : Groups P kt e q W base b f) (hb : W'.heap[b]? = W.heap[b]?) (hm : ∀ j, base ≤ j → j < W.heap.size → W'.heap[j]? = W.heap[j]?) : Groups P kt e q W' base b f := by
 obtain ⟨es, clock, h1, h2, h3, h4, h5⟩ := h
 refine ⟨es, clock, hb.trans h1, h2, fun x hx => ?_, h4, h5⟩
 obtain ⟨a1, a2, a3⟩ := h3 x hx
 exact ⟨a1, a2, own_move a3 (fun k hk => hm k (own_base a3 k hk) (own_lt a3 k hk))⟩
theorem Groups.below {W W' : World} {base b : Nat} {f : Value → List Int} (h : Groups P kt e q W base b f) (hb : Below W.heap.size W W') : Groups P kt e q W' base b f := by
 have hlt : b < W.heap.size := by obtain ⟨es, clock, h1, _⟩ := h; exact blk_lt h1
 exact h.move (hb.block b hlt) (fun j _ hj => hb.block j hj)
theorem Groups.lt {W : World} {base b : Nat} {f : Value → List Int} (h : Groups P kt e q W base b f) : b < W.heap.size := by
 obtain ⟨es, clock, h1, _⟩ := h
 exact blk_lt h1
theorem Groups.lookup {W : World} {base b : Nat} {f : Value → List Int} (h : Groups P kt e q W base b f) (K : Keyed P kt) (ht : P.underlying t = some (.map kt E)) (hz : ∀ u : World, (zeroValue E).run P u = .ok (.slice none 0 0) u)
  {key : Value} {l : Lit} (hkey : keyOf P kt key = some l) :
  ∃ v, (∀ W' : World, W'.heap[b]? = W.heap[b]? → (Instr.lookup t (.map (some b)) key false).run P W' = .ok v W') ∧ W.ownsRow base e 1 v (f key).length (nums q (f key)) := by
 obtain ⟨es, clock, h1, h2, h3, h4, h5⟩ := h
 have hks : ∀ x ∈ es.toList, ∃ l, keyOf P kt x.key = some l := fun x hx => (h3 x hx).1
 by_cases hin : ∃ x ∈ es.toList, x.key = key
 ·obtain ⟨x, hx, hxk⟩ := hin
  refine ⟨x.val, fun W' hW' => ?_, ?_⟩
  ·have hb' := hW'.trans h1
   rcases K.find W' hkey es.toList hks with ⟨f1, f2⟩ | ⟨j, e0, f1, f2, f3⟩
   ·exact absurd hxk (f2 x hx)
   ·have : e0 = x := by
     have hn := h2.2.2
     have hm0 : e0 ∈ es.toList := List.mem_of_getElem? f2
     exact inj_of_nodup_map hn hm0 hx (by rw [f3, hxk])
    subst this
    simp [Instr.lookup, run_underlying ht, MapKept.run_getObj_map hb', K.check W' _ hkey, f1, Result.andThen]
  ·have := (h3 x hx).2.2
   rwa [hxk] at this
 ·have hf : f key = [] := by
   by_cases h0 : f key = []
   ·exact h0
   ·exact absurd (h4 key h0) hin
  refine ⟨.slice none 0 0, fun W' hW' => ?_, by rw [hf]; exact own_nil _ _ _ _⟩
  have hb' := hW'.trans h1
  rcases K.find W' hkey es.toList hks with ⟨f1, f2⟩ | ⟨j, e0, f1, f2, f3⟩
  ·simp [Instr.lookup, run_underlying ht, MapKept.run_getObj_map hb', K.check W' _ hkey, f1, hz, Result.andThen]
  ·exact absurd ⟨e0, List.mem_of_getElem? f2, f3⟩ hin
theorem Groups.entry {W : World} {base b : Nat} {f : Value → List Int} (h : Groups P kt e q W base b f) (K : Keyed P kt) (ht : P.underlying t = some (.map kt E)) (hz : ∀ u : World, (zeroValue E).run P u = .ok (.slice none 0 0) u)
  {key : Value} {l : Lit} (hkey : keyOf P kt key = some l) (W' : World) (hW' : W'.heap[b]? = W.heap[b]?) :
  ∃ v0 st es1 clock1, (Instr.mapEntry t (.map (some b)) key).run P W' = .ok (.tuple #[v0, goInt st]) (setBlock W' b (.map es1 clock1)) ∧ (∃ es clock, W.heap[b]? = some (.map es clock)) ∧
   W.ownsRow base e 1 v0 (f key).length (nums q (f key)) ∧ v0.ownBlock ≠ some b ∧
   ∀ (W2 : World) (val : Value) (xs : List Int) (f' : Value → List Int), W2.heap[b]? = some (.map es1 clock1) → (∀ j, j < W.heap.size → j ≠ b → some j ≠ v0.ownBlock → W2.heap[j]? = W.heap[j]?) →
    W2.ownsRow base e 1 val xs.length (nums q xs) → xs ≠ [] → (val.ownBlock = v0.ownBlock ∨ ∃ g, val.ownBlock = some g ∧ W.heap.size ≤ g) → f' key = xs → (∀ k', k' ≠ key → f' k' = f k') →
    ∃ es' clock', (Instr.entryStore t (.map (some b)) (goInt st) val).run P W2 = .ok () (setBlock W2 b (.map es' clock')) ∧ Groups P kt e q (setBlock W2 b (.map es' clock')) base b f' := by
 obtain ⟨es, clock, h1, h2, h3, h4, h5⟩ := h
 have h1' := hW'.trans h1
 have hks : ∀ x ∈ es.toList, ∃ l, keyOf P kt x.key = some l := fun x hx => (h3 x hx).1
 obtain ⟨s1, s2, s3⟩ := h2
 rcases K.find W' hkey es.toList hks with ⟨f1, f2⟩ | ⟨j, e0, f1, f2, f3⟩
 ·have hf : f key = [] := by
   by_cases h0 : f key = []
   ·exact h0
   ·obtain ⟨x, hx, hk⟩ := h4 key h0
    exact absurd hk (f2 x hx)
  refine ⟨.slice none 0 0, clock, es.push ⟨key, .slice none 0 0, clock⟩, clock + 1, ?_, ⟨es, clock, h1⟩, by rw [hf]; exact own_nil _ _ _ _, by simp [Value.ownBlock], ?_⟩
  ·simp [Instr.mapEntry, run_underlying ht, MapKept.run_getObj_map h1', K.check W' false hkey, f1, hz, MapKept.run_setObj_map _ h1', Result.andThen, setBlock]
  ·intro W2 val xs f' hW2 hfar hown hne hloc hf1 hf2
   refine ⟨es.push ⟨key, val, clock⟩, clock + 1, ?_, es.push ⟨key, val, clock⟩, clock + 1, heap_setBlock_same hW2 _, stamped_push ⟨s1, s2, s3⟩ f2, ?_, ?_, ?_⟩
   ·have hidx : (es.push ⟨key, .slice none 0 0, clock⟩).findIdx? (fun e => ((e.born : Nat) : Int) == ((clock : Nat) : Int)) = some es.size := by
     rw [findIdx_arr]
     exact findIdx_born (l := (es.push ⟨key, .slice none 0 0, clock⟩).toList) (j := es.size) (e0 := ⟨key, .slice none 0 0, clock⟩) (by
      simp only [Array.toList_push, List.map_append, List.map_cons, List.map_nil]
      refine List.nodup_append.2 ⟨s2, by simp, fun a ha c hc e1 => ?_⟩
      simp only [List.mem_singleton] at hc
      obtain ⟨x, hx, rfl⟩ := List.mem_map.1 ha
      have := s1 x hx
      omega) (by simp)
    have hmod : (es.push ⟨key, .slice none 0 0, clock⟩).modify es.size (fun e => { e with val := val }) = es.push ⟨key, val, clock⟩ := by
     apply Array.ext'
     rw [Array.toList_modify, Array.toList_push, Array.toList_push, ← Array.length_toList, modify_last]
    simp [Instr.entryStore, MapKept.run_getObj_map hW2, asInt, asIntOf, goInt, hidx, hmod, MapKept.run_setObj_map _ hW2, Result.andThen, setBlock]
   ·intro x hx
    simp only [Array.toList_push, List.mem_append, List.mem_singleton] at hx
    rcases hx with hx | rfl
    ·obtain ⟨a1, a2, a3⟩ := h3 x hx
     have hxk : x.key ≠ key := f2 x hx
     rw [hf2 _ hxk]
     have hnb := own_notmap a3 h1
     refine ⟨a1, a2, own_move (own_move a3 (fun k hk => hfar k (own_lt a3 k hk) (fun e1 => hnb (by rw [hk, e1])) (by simp [Value.ownBlock]))) (fun k hk => heap_setBlock_other hW2 _ (fun e1 => hnb (by rw [hk, e1])))⟩
    ·have hnb := own_notmap hown hW2
     refine ⟨⟨l, hkey⟩, by simpa [hf1] using hne, ?_⟩
     show World.ownsRow _ base e 1 val (f' key).length (nums q (f' key))
     rw [hf1]
     exact own_move hown (fun k hk => heap_setBlock_other hW2 _ (fun e1 => hnb (by rw [hk, e1])))
   ·intro key' hk'
    by_cases e1 : key' = key
    ·subst e1
     exact ⟨⟨_, val, clock⟩, by simp, rfl⟩
    ·rw [hf2 _ e1] at hk'
     obtain ⟨x, hx, hk⟩ := h4 key' hk'
     exact ⟨x, by simp [hx], hk⟩
   ·have hnew : ∀ x ∈ es.toList, x.val.ownBlock = none ∨ x.val.ownBlock ≠ val.ownBlock := by
     intro x hx
     have a3 := (h3 x hx).2.2
     cases hxb : x.val.ownBlock with
     | none => exact .inl rfl
     | some g =>
      refine .inr (fun e1 => ?_)
      rcases hloc with h6 | ⟨g', h6, h7⟩
      ·rw [h6] at e1; simp [Value.ownBlock] at e1
      ·rw [h6] at e1
       cases e1
       have := own_lt a3 g hxb
       omega
    intro x hx y hy hne'
    simp only [Array.toList_push, List.mem_append, List.mem_singleton] at hx hy
    rcases hx with hx | rfl <;> rcases hy with hy | rfl
    ·exact h5 x hx y hy hne'
    ·exact hnew x hx
    ·rcases hnew y hy with h6 | h6
     ·show val.ownBlock = none ∨ val.ownBlock ≠ y.val.ownBlock
      cases hvb : val.ownBlock with
      | none => exact .inl rfl
      | some g => exact .inr (by rw [h6]; simp)
     ·exact .inr (fun e1 => h6 e1.symm)
    ·exact absurd rfl hne'
 ·have hj : es[j]? = some e0 := by simpa using f2
  have hm0 : e0 ∈ es.toList := List.mem_of_getElem? f2
  obtain ⟨b1, b2, b3⟩ := h3 e0 hm0
  rw [f3] at b3
  have hsame : es.modify j (fun e => { e with key := key }) = es := by
   apply Array.ext'
   rw [Array.toList_modify, modify_eq_set _ _ _ _ f2]
   have : ({ e0 with key := key } : MapEntry) = e0 := by rw [← f3]
   rw [this]
   exact set_self _ _ _ f2
  refine ⟨e0.val, e0.born, es, clock, ?_, ⟨es, clock, h1⟩, b3, own_notmap b3 h1, ?_⟩
  ·simp [Instr.mapEntry, run_underlying ht, MapKept.run_getObj_map h1', K.check W' false hkey, f1, hj, f3, K.stays W' hkey, hsame, MapKept.run_setObj_map _ h1', Result.andThen, setBlock]
  ·intro W2 val xs f' hW2 hfar hown hne hloc hf1 hf2
   have hmem : ∀ x, x ∈ (es.modify j (fun e => { e with val := val })).toList → (x.key = key ∧ x.val = val) ∨ (x ∈ es.toList ∧ x.key ≠ key) := by
    intro x hx
    rw [Array.toList_modify, modify_eq_set _ _ _ _ f2] at hx
    obtain ⟨i, hi⟩ := List.mem_iff_getElem?.1 hx
    rw [List.getElem?_set] at hi
    split at hi
    ·rename_i he
     split at hi
     ·cases hi
      exact .inl ⟨f3, rfl⟩
     ·cases hi
    ·rename_i he
     refine .inr ⟨List.mem_of_getElem? hi, fun ek => he ?_⟩
     have : x = e0 := inj_of_nodup_map s3 (List.mem_of_getElem? hi) hm0 (by rw [f3, ek])
     subst this
     have hlt1 := (List.getElem?_eq_some_iff.1 hi)
     have hlt2 := (List.getElem?_eq_some_iff.1 f2)
     have hnd : es.toList.Nodup := nodup_of_map s3
     exact (List.getElem_inj hnd).1 (by rw [hlt1.2, hlt2.2]) |>.symm
   refine ⟨es.modify j (fun e => { e with val := val }), clock, ?_, es.modify j (fun e => { e with val := val }), clock, heap_setBlock_same hW2 _, stamped_modify ⟨s1, s2, s3⟩ j _ (fun _ _ => rfl) (fun _ _ _ => rfl), ?_, ?_, ?_⟩
   ·have hidx : es.findIdx? (fun e => ((e.born : Nat) : Int) == ((e0.born : Nat) : Int)) = some j := by
     rw [findIdx_arr]
     exact findIdx_born s2 f2
    simp [Instr.entryStore, MapKept.run_getObj_map hW2, asInt, asIntOf, goInt, hidx, MapKept.run_setObj_map _ hW2, Result.andThen, setBlock]
   ·intro x hx
    rcases hmem x hx with ⟨hk, hv⟩ | ⟨hx0, hxk⟩
    ·have hnb := own_notmap hown hW2
     rw [hk, hf1, hv]
     exact ⟨⟨l, hkey⟩, hne, own_move hown (fun k hk => heap_setBlock_other hW2 _ (fun e1 => hnb (by rw [hk, e1])))⟩
    ·obtain ⟨a1, a2, a3⟩ := h3 x hx0
     rw [hf2 _ hxk]
     have hnb := own_notmap a3 h1
     refine ⟨a1, a2, own_move (own_move a3 (fun k hk => hfar k (own_lt a3 k hk) (fun e1 => hnb (by rw [hk, e1])) (fun e1 => ?_))) (fun k hk => heap_setBlock_other hW2 _ (fun e1 => hnb (by rw [hk, e1])))⟩
     rcases h5 x hx0 e0 hm0 (by rw [f3]; exact hxk) with h6 | h6
     ·rw [hk] at h6; cases h6
     ·exact h6 (by rw [hk, e1])
   ·intro key' hk'
    by_cases e1 : key' = key
    ·subst e1
     refine ⟨{ e0 with val := val }, ?_, f3⟩
     rw [Array.toList_modify, modify_eq_set _ _ _ _ f2]
     exact List.mem_set (List.getElem?_eq_some_iff.1 f2).1 _
    ·rw [hf2 _ e1] at hk'
     obtain ⟨x, hx, hk⟩ := h4 key' hk'
     refine ⟨x, ?_, hk⟩
     rw [Array.toList_modify, modify_eq_set _ _ _ _ f2]
     obtain ⟨i, hi⟩ := List.mem_iff_getElem?.1 hx
     refine List.mem_iff_getElem?.2 ⟨i, ?_⟩
     rw [List.getElem?_set]
     rw [if_neg (fun e2 => by subst e2; rw [f2] at hi; cases hi; exact e1 (by rw [← hk, f3]))]
     exact hi
   ·have hnew : ∀ x ∈ es.toList, x.key ≠ key → x.val.ownBlock = none ∨ x.val.ownBlock ≠ val.ownBlock := by
     intro x hx hxk
     have a3 := (h3 x hx).2.2
     rcases hloc with h6 | ⟨g', h6, h7⟩
     ·rw [h6]
      exact h5 x hx e0 hm0 (by rw [f3]; exact hxk)
     ·cases hxb : x.val.ownBlock with
      | none => exact .inl rfl
      | some g0 =>
       refine .inr (fun e1 => ?_)
       have e2 : some g0 = some g' := by rw [← h6]; exact e1
       have e3 : g0 = g' := Option.some.inj e2
       have := own_lt a3 g0 hxb
       omega
    intro x hx y hy hne'
    rcases hmem x hx with ⟨hk, hv⟩ | ⟨hx0, hxk⟩ <;> rcases hmem y hy with ⟨hk2, hv2⟩ | ⟨hy0, hyk⟩
    ·exact absurd (hk.trans hk2.symm) hne'
    ·rw [hv]
     rcases hnew y hy0 hyk with h6 | h6
     ·cases hvb : val.ownBlock with
      | none => exact .inl rfl
      | some g => exact .inr (by rw [h6]; simp)
     ·exact .inr (fun e1 => h6 e1.symm)
    ·rw [hv2]
     exact hnew x hx0 hxk
    ·exact h5 x hx0 y hy0 hne'
section
variable {ops : Array Oper} {rest : List Oper} {o : Oper} {a : Act} {Q : Exit → Act → World → Prop}
theorem wpList_entry {W w1 : World} (hg : o.guard = none) (m k : Operand) (t : TypeId) (hop : o.op = Op.mapEntry t m k) {vm vk v : Value} (hm : a.eval m = vm) (hk : a.eval k = vk) (hrun : (Instr.mapEntry t vm vk).run P W = .ok v w1)
  (hK : wpList P ops Q rest (a.put o.dst v) w1) : wpList P ops Q (o :: rest) a W := by
 refine wpList_plain hg fun K' hK' => ?_
 unfold Oper.wp
 simp [execOp, hop, hm, hk, hrun, Result.andThen]
 exact hK' _ _ hK
theorem setBlock_alloc {W : World} {b : Nat} (hb : b < W.heap.size) (m o' : Obj) : setBlock (W.alloc o') b m = (setBlock W b m).alloc o' := by
 unfold setBlock World.alloc
 simp only [World.mk.injEq, true_and, and_true]
 apply Array.ext_getElem?
 intro i
 simp only [Array.getElem?_setIfInBounds, Array.getElem?_push, Array.size_push, Array.size_setIfInBounds]
 by_cases h1 : b = i
 ·subst h1
  simp [hb, Nat.ne_of_lt hb, Nat.lt_succ_of_lt hb]
 ·by_cases h2 : i = W.heap.size
  ·subst h2
   simp [h1]
  ·simp [h1, h2]
theorem wpList_entry_groups {E kt e : TypeId} {q : IntKind} {W : World} {o' : Obj} {base b : Nat} {f : Value → List Int} (hg : o.guard = none) (m k : Operand) (t : TypeId) (hop : o.op = Op.mapEntry t m k) (K : Keyed P kt) (ht : P.underlying t = some (.map kt E))
  (hz : ∀ u : World, (zeroValue E).run P u = .ok (.slice none 0 0) u) {key : Value} {l : Lit} (hkey : keyOf P kt key = some l) (hm : a.eval m = .map (some b)) (hk : a.eval k = key) (hGr : Groups P kt e q W base b f)
  (hK : ∀ v0 st es1 clock1, W.ownsRow base e 1 v0 (f key).length (nums q (f key)) → v0.ownBlock ≠ some b →
   (∀ (W2 : World) (val : Value) (xs : List Int) (f' : Value → List Int), W2.heap[b]? = some (.map es1 clock1) → (∀ j, j < W.heap.size → j ≠ b → some j ≠ v0.ownBlock → W2.heap[j]? = W.heap[j]?) →
    W2.ownsRow base e 1 val xs.length (nums q xs) → xs ≠ [] → (val.ownBlock = v0.ownBlock ∨ ∃ g, val.ownBlock = some g ∧ W.heap.size ≤ g) → f' key = xs → (∀ k', k' ≠ key → f' k' = f k') →
    ∃ es' clock', (Instr.entryStore t (.map (some b)) (goInt st) val).run P W2 = .ok () (setBlock W2 b (.map es' clock')) ∧ Groups P kt e q (setBlock W2 b (.map es' clock')) base b f') →
   (setBlock W b (.map es1 clock1)).heap[b]? = some (.map es1 clock1) → (∀ j, j ≠ b → (setBlock W b (.map es1 clock1)).heap[j]? = W.heap[j]?) → (setBlock W b (.map es1 clock1)).heap.size = W.heap.size →
   wpList P ops Q rest (a.put o.dst (.tuple #[v0, goInt st])) ((setBlock W b (.map es1 clock1)).alloc o')) : wpList P ops Q (o :: rest) a (W.alloc o') := by
 have hlt := hGr.lt
 obtain ⟨v0, st, es1, clock1, hrun, ⟨es, clock, hb⟩, ho, hnb, hback⟩ := hGr.entry K ht hz hkey (W.alloc o') (blk_alloc' hlt o')
 refine wpList_entry hg m k t hop hm hk hrun ?_
 rw [setBlock_alloc hlt]
 exact hK v0 st es1 clock1 ho hnb hback (heap_setBlock_same hb _) (fun j hj => heap_setBlock_other hb _ hj) (by simp [setBlock])
end
end Go.Proofs.Ytbpebehbfpgjbaa.GM
end
section
namespace Go.Proofs
open Go.Shelf
def Try.lays189_ren : Go.Shelf.Ren := ⟨fun | 189 => 67 | 125 => 82 | 257 => 81 | 128 => 98 | 129 => 99 | 294 => 90 | 295 => 91 | 296 => 92 | 297 => 93 | 298 => 94 | 299 => 95 | 216 => 88 | 300 => 96 | 301 => 97 | 328 => 101 | 329 => 102 | 330 => 103 | 331 => 104 | 332 => 105 | 215 => 100 | 343 => 106 | n => n, fun | 28 => 29 | 3 => 3 | 46 => 136 | 0 => 0 | 51 => 153 | 53 => 114 | 4 => 4 | 183 => 147 | 182 => 146 | 131 => 134 | 5 => 5 | 9 => 9 | 218 => 155 | 222 => 159 | 228 => 161 | 229 => 162 | n => n, fun | n => n⟩
theorem Try.lays189 : Go.Proofs.Lays.n189 Try.prog Try.lays189_ren := {
 mixed := by kernel_rfl
 f125 := Try.func82.trans (congrArg some (by kernel_rfl))
 f128 := Try.func98.trans (congrArg some (by kernel_rfl))
 f129 := Try.func99.trans (congrArg some (by kernel_rfl))
 f189 := Try.func67.trans (congrArg some (by kernel_rfl))
 f215 := Try.func100.trans (congrArg some (by kernel_rfl))
 f216 := Try.func88.trans (congrArg some (by kernel_rfl))
 f257 := Try.func81.trans (congrArg some (by kernel_rfl))
 f294 := Try.func90.trans (congrArg some (by kernel_rfl))
 f295 := Try.func91.trans (congrArg some (by kernel_rfl))
 f296 := Try.func92.trans (congrArg some (by kernel_rfl))
 f297 := Try.func93.trans (congrArg some (by kernel_rfl))
 f298 := Try.func94.trans (congrArg some (by kernel_rfl))
 f299 := Try.func95.trans (congrArg some (by kernel_rfl))
 f300 := Try.func96.trans (congrArg some (by kernel_rfl))
 f301 := Try.func97.trans (congrArg some (by kernel_rfl))
 f328 := Try.func101.trans (congrArg some (by kernel_rfl))
 f329 := Try.func102.trans (congrArg some (by kernel_rfl))
 f330 := Try.func103.trans (congrArg some (by kernel_rfl))
 f331 := Try.func104.trans (congrArg some (by kernel_rfl))
 f332 := Try.func105.trans (congrArg some (by kernel_rfl))
 f343 := Try.func106.trans (congrArg some (by kernel_rfl))
 t0 := Try.underlying0
 a0 := Try.isAgg0
 z0 := Try.sizeOf0
 v0 := Try.zeroValue0
 t3 := Try.underlying3
 a3 := Try.isAgg3
 z3 := Try.sizeOf3
 v3 := Try.zeroValue3
 t4 := Try.underlying4
 a4 := Try.isAgg4
 z4 := Try.sizeOf4
 v4 := Try.zeroValue4
 t5 := Try.underlying5
 a5 := Try.isAgg5
 z5 := Try.sizeOf5
 v5 := Try.zeroValue5
 t9 := Try.underlying9
 a9 := Try.isAgg9
 z9 := Try.sizeOf9
 v9 := Try.zeroValue9
 t28 := Try.underlying29
 a28 := Try.isAgg29
 z28 := Try.sizeOf29
 v28 := Try.zeroValue29
 t46 := Try.underlying136
 a46 := Try.isAgg136
 z46 := Try.sizeOf136
 v46 := Try.zeroValue136
 t51 := Try.underlying153
 a51 := Try.isAgg153
 z51 := Try.sizeOf153
 v51 := Try.zeroValue153
 t53 := Try.underlying114
 a53 := Try.isAgg114
 z53 := Try.sizeOf114
 v53 := Try.zeroValue114
 t131 := Try.underlying134
 a131 := Try.isAgg134
 z131 := Try.sizeOf134
 v131 := Try.zeroValue134
 t182 := Try.underlying146
 a182 := Try.isAgg146
 z182 := Try.sizeOf146
 v182 := Try.zeroValue146
 t183 := Try.underlying147
 a183 := Try.isAgg147
 z183 := Try.sizeOf147
 v183 := Try.zeroValue147
 t218 := Try.underlying155
 a218 := Try.isAgg155
 z218 := Try.sizeOf155
 v218 := Try.zeroValue155
 t222 := Try.underlying159
 a222 := Try.isAgg159
 z222 := Try.sizeOf159
 v222 := Try.zeroValue159
 t228 := Try.underlying161
 a228 := Try.isAgg161
 z228 := Try.sizeOf161
 v228 := Try.zeroValue161
 t229 := Try.underlying162
 a229 := Try.isAgg162
 z229 := Try.sizeOf162
 v229 := Try.zeroValue162 }
open Go.Sort Go.RowKit in
theorem Try.slices_Sort_int (blk off cap : Nat) (zs : List Int) (w : World) (hH : Holds (Value.int .i64) w blk off zs.toArray) (hblk : blk < w.heap.size) (hsz : zs.length < 4611686018427387904) :
  Calls Try.prog 67 #[.slice (some ⟨blk, off, none⟩) zs.length cap] w fun e w' =>
   e = .returned (.tuple #[]) ∧ ∃ n os, w' = grow (putRow (Value.int .i64) (Sort.ahead w n) blk off (zs.mergeSort fun x y => decide (x ≤ y)).toArray) os := Any.slices_Sort_int Try.lays189 blk off cap zs w hH hblk hsz
def Try.lays264_ren : Go.Shelf.Ren := ⟨fun | 264 => 65 | n => n, fun | 53 => 114 | 46 => 136 | n => n, fun | n => n⟩
theorem Try.lays264 : Go.Proofs.Lays.n264 Try.prog Try.lays264_ren := {
 mixed := by kernel_rfl
 f264 := Try.func65.trans (congrArg some (by kernel_rfl))
 t46 := Try.underlying136
 a46 := Try.isAgg136
 z46 := Try.sizeOf136
 v46 := Try.zeroValue136
 t53 := Try.underlying114
 a53 := Try.isAgg114
 z53 := Try.sizeOf114
 v53 := Try.zeroValue114 }
open Go.RowKit Go.Lib in
theorem Try.bits_Mul64 (x y : Nat) (hx : x < 18446744073709551616) (hy : y < 18446744073709551616) (w : World) :
  Calls Try.prog 65 #[.int .u64 x, .int .u64 y] w fun e w' => e = .returned (.tuple #[.int .u64 ((x * y / 18446744073709551616 : Nat) : Int), .int .u64 ((x * y % 18446744073709551616 : Nat) : Int)]) ∧ w' = w := Any.bits_Mul64 Try.lays264 x y hx hy w
def Try.laysNm225_ren : Go.Shelf.Ren := ⟨fun | 25 => 79 | 31 => 88 | 32 => 89 | 37 => 100 | n => n, fun | 22 => 29 | 3 => 3 | 4 => 4 | 40 => 136 | 0 => 0 | n => n, fun | n => n⟩
theorem Try.laysNm225 : Go.Proofs.Lays2.n25 Try.prog Try.laysNm225_ren := {
 mixed := by kernel_rfl
 f25 := Try.func79.trans (congrArg some (by kernel_rfl))
 f31 := Try.func88.trans (congrArg some (by kernel_rfl))
 f32 := Try.func89.trans (congrArg some (by kernel_rfl))
 f37 := Try.func100.trans (congrArg some (by kernel_rfl))
 t0 := Try.underlying0
 a0 := Try.isAgg0
 z0 := Try.sizeOf0
 v0 := Try.zeroValue0
 t3 := Try.underlying3
 a3 := Try.isAgg3
 z3 := Try.sizeOf3
 v3 := Try.zeroValue3
 t4 := Try.underlying4
 a4 := Try.isAgg4
 z4 := Try.sizeOf4
 v4 := Try.zeroValue4
 t22 := Try.underlying29
 a22 := Try.isAgg29
 z22 := Try.sizeOf29
 v22 := Try.zeroValue29
 t40 := Try.underlying136
 a40 := Try.isAgg136
 z40 := Try.sizeOf136
 v40 := Try.zeroValue136 }
open Go.RowKit Go.Lib in
theorem Try.slices_BinarySearch_int (b off n c : Nat) (zs : List Int) (x : Int) (w : World) (hz : n ≤ zs.length) (hbig : n < 4611686018427387904) (hc : ∀ j, j < zs.length → w.cell? ⟨b, off + j, none⟩ = some (.int .i64 (zs.getD j 0))) (hs : (zs.take n).Pairwise (· ≤ ·)) :
  Calls Try.prog 79 #[.slice (some ⟨b, off, none⟩) n c, .int .i64 x] w fun e w' => e = .returned (.tuple #[.int .i64 ((zs.take n).countP (· < x) : Nat), .bool ((zs.take n).contains x)]) ∧ ∃ q, w' = w.drewN q := Any.slices_BinarySearch_int Try.laysNm225 b off n c zs x w hz hbig hc hs
open Go.RowKit Go.Sort in
theorem Try.slices_Sort_int_none (p : Option Addr) (cap : Nat) (w : World) :
  Calls Try.prog 67 #[.slice p 0 cap] w fun e w' => e = .returned (.tuple #[]) ∧ w' = w := Any.slices_Sort_int_none Try.lays189 p cap w
open Go.RowKit Go.Lib in
theorem Try.slices_BinarySearch_int_empty (a : Option Addr) (c : Nat) (x : Int) (w : World) :
  Calls Try.prog 79 #[.slice a 0 c, .int .i64 x] w fun e w' => e = .returned (.tuple #[.int .i64 0, .bool false]) ∧ w' = w := Any.slices_BinarySearch_int_empty Try.laysNm225 a c x w
end Go.Proofs
end
section
namespace Go.Proofs.Ytbpebehbfpgjbaa.GM
open Go.RowKit Go.Proofs.YtbpebehbfpgjbaaW.PrintWords Go.Proofs.YtbpebehbfpgjbaaW.PrintLast Go.Proofs.YtbpebehbfpgjbaaW.PrintMore
open Go.ChangeMaps Go.MapKept
open Go.WideElems (findIdx_born findIdx_arr modify_last set_self)
open Go.Maps (Keyed)
set_option linter.unusedVariables false
set_option linter.unusedSimpArgs false
variable {P : Program} {kt E t : TypeId} {e : TypeId} {q : IntKind}
theorem Groups.update {W : World} {base b : Nat} {f : Value → List Int} (h : Groups P kt e q W base b f) (K : Keyed P kt) (ht : P.underlying t = some (.map kt E)) (hz : ∀ u : World, (zeroValue E).run P u = .ok (.slice none 0 0) u)
  {key : Value} {l : Lit} (hkey : keyOf P kt key = some l) :
  ∃ v0, (∀ W' : World, W'.heap[b]? = W.heap[b]? → (Instr.lookup t (.map (some b)) key false).run P W' = .ok v0 W') ∧
   W.ownsRow base e 1 v0 (f key).length (nums q (f key)) ∧ v0.ownBlock ≠ some b ∧
   ∀ (W2 : World) (val : Value) (xs : List Int) (f' : Value → List Int), W2.heap[b]? = W.heap[b]? → (∀ j, j < W.heap.size → j ≠ b → some j ≠ v0.ownBlock → W2.heap[j]? = W.heap[j]?) →
    W2.ownsRow base e 1 val xs.length (nums q xs) → xs ≠ [] → (val.ownBlock = v0.ownBlock ∨ ∃ g, val.ownBlock = some g ∧ W.heap.size ≤ g) → f' key = xs → (∀ k', k' ≠ key → f' k' = f k') →
    ∃ es' clock', (Instr.mapUpdate t (.map (some b)) key val).run P W2 = .ok () (setBlock W2 b (.map es' clock')) ∧ Groups P kt e q (setBlock W2 b (.map es' clock')) base b f' := by
 obtain ⟨es, clock, h1, h2, h3, h4, h5⟩ := h
 have hks : ∀ x ∈ es.toList, ∃ l, keyOf P kt x.key = some l := fun x hx => (h3 x hx).1
 obtain ⟨s1, s2, s3⟩ := h2
 rcases K.find W hkey es.toList hks with ⟨f1, f2⟩ | ⟨j, e0, f1, f2, f3⟩
 ·have hf : f key = [] := by
   by_cases h0 : f key = []
   ·exact h0
   ·obtain ⟨x, hx, hk⟩ := h4 key h0
    exact absurd hk (f2 x hx)
  refine ⟨.slice none 0 0, fun W' hW' => ?_, by rw [hf]; exact own_nil _ _ _ _, by simp [Value.ownBlock], ?_⟩
  ·have hb' := hW'.trans h1
   rcases K.find W' hkey es.toList hks with ⟨g1, g2⟩ | ⟨j, e0, g1, g2, g3⟩
   ·simp [Instr.lookup, run_underlying ht, MapKept.run_getObj_map hb', K.check W' _ hkey, g1, hz, Result.andThen]
   ·exact absurd g3 (f2 e0 (List.mem_of_getElem? g2))
  ·intro W2 val xs f' hW20 hfar hown hne hloc hf1 hf2
   have hW2 := hW20.trans h1
   refine ⟨es.push ⟨key, val, clock⟩, clock + 1, ?_, es.push ⟨key, val, clock⟩, clock + 1, heap_setBlock_same hW2 _, stamped_push ⟨s1, s2, s3⟩ f2, ?_, ?_, ?_⟩
   ·rcases K.find W2 hkey es.toList hks with ⟨g1, g2⟩ | ⟨j, e0, g1, g2, g3⟩
    ·simp [Instr.mapUpdate, run_underlying ht, MapKept.run_getObj_map hW2, K.check W2 false hkey, g1, MapKept.run_setObj_map _ hW2, Result.andThen, setBlock]
    ·exact absurd g3 (f2 e0 (List.mem_of_getElem? g2))
   ·intro x hx
    simp only [Array.toList_push, List.mem_append, List.mem_singleton] at hx
    rcases hx with hx | rfl
    ·obtain ⟨a1, a2, a3⟩ := h3 x hx
     have hxk : x.key ≠ key := f2 x hx
     rw [hf2 _ hxk]
     have hnb := own_notmap a3 h1
     refine ⟨a1, a2, own_move (own_move a3 (fun k hk => hfar k (own_lt a3 k hk) (fun e1 => hnb (by rw [hk, e1])) (by simp [Value.ownBlock]))) (fun k hk => heap_setBlock_other hW2 _ (fun e1 => hnb (by rw [hk, e1])))⟩
    ·have hnb := own_notmap hown hW2
     refine ⟨⟨l, hkey⟩, by simpa [hf1] using hne, ?_⟩
     show World.ownsRow _ base e 1 val (f' key).length (nums q (f' key))
     rw [hf1]
     exact own_move hown (fun k hk => heap_setBlock_other hW2 _ (fun e1 => hnb (by rw [hk, e1])))
   ·intro key' hk'
    by_cases e1 : key' = key
    ·subst e1
     exact ⟨⟨_, val, clock⟩, by simp, rfl⟩
    ·rw [hf2 _ e1] at hk'
     obtain ⟨x, hx, hk⟩ := h4 key' hk'
     exact ⟨x, by simp [hx], hk⟩
   ·have hnew : ∀ x ∈ es.toList, x.val.ownBlock = none ∨ x.val.ownBlock ≠ val.ownBlock := by
     intro x hx
     have a3 := (h3 x hx).2.2
     cases hxb : x.val.ownBlock with
     | none => exact .inl rfl
     | some g =>
      refine .inr (fun e1 => ?_)
      rcases hloc with h6 | ⟨g', h6, h7⟩
      ·rw [h6] at e1; simp [Value.ownBlock] at e1
      ·rw [h6] at e1
       cases e1
       have := own_lt a3 g hxb
       omega
    intro x hx y hy hne'
    simp only [Array.toList_push, List.mem_append, List.mem_singleton] at hx hy
    rcases hx with hx | rfl <;> rcases hy with hy | rfl
    ·exact h5 x hx y hy hne'
    ·exact hnew x hx
    ·rcases hnew y hy with h6 | h6
     ·show val.ownBlock = none ∨ val.ownBlock ≠ y.val.ownBlock
      cases hvb : val.ownBlock with
      | none => exact .inl rfl
      | some g => exact .inr (by rw [h6]; simp)
     ·exact .inr (fun e1 => h6 e1.symm)
    ·exact absurd rfl hne'
 ·have hj : es[j]? = some e0 := by simpa using f2
  have hm0 : e0 ∈ es.toList := List.mem_of_getElem? f2
  obtain ⟨b1, b2, b3⟩ := h3 e0 hm0
  rw [f3] at b3
  refine ⟨e0.val, fun W' hW' => ?_, b3, own_notmap b3 h1, ?_⟩
  ·have hb' := hW'.trans h1
   rcases K.find W' hkey es.toList hks with ⟨g1, g2⟩ | ⟨j', e1, g1, g2, g3⟩
   ·exact absurd f3 (g2 e0 hm0)
   ·have : e1 = e0 := inj_of_nodup_map s3 (List.mem_of_getElem? g2) hm0 (by rw [f3, g3])
    subst this
    simp [Instr.lookup, run_underlying ht, MapKept.run_getObj_map hb', K.check W' _ hkey, g1, Result.andThen]
  ·intro W2 val xs f' hW20 hfar hown hne hloc hf1 hf2
   have hW2 := hW20.trans h1
   have hmem : ∀ x, x ∈ (es.modify j (fun e => { e with val := val })).toList → (x.key = key ∧ x.val = val) ∨ (x ∈ es.toList ∧ x.key ≠ key) := by
    intro x hx
    rw [Array.toList_modify, modify_eq_set _ _ _ _ f2] at hx
    obtain ⟨i, hi⟩ := List.mem_iff_getElem?.1 hx
    rw [List.getElem?_set] at hi
    split at hi
    ·rename_i he
     split at hi
     ·cases hi
      exact .inl ⟨f3, rfl⟩
     ·cases hi
    ·rename_i he
     refine .inr ⟨List.mem_of_getElem? hi, fun ek => he ?_⟩
     have : x = e0 := inj_of_nodup_map s3 (List.mem_of_getElem? hi) hm0 (by rw [f3, ek])
     subst this
     have hlt1 := (List.getElem?_eq_some_iff.1 hi)
     have hlt2 := (List.getElem?_eq_some_iff.1 f2)
     have hnd : es.toList.Nodup := nodup_of_map s3
     exact (List.getElem_inj hnd).1 (by rw [hlt1.2, hlt2.2]) |>.symm
   refine ⟨es.modify j (fun e => { e with val := val }), clock, ?_, es.modify j (fun e => { e with val := val }), clock, heap_setBlock_same hW2 _, stamped_modify ⟨s1, s2, s3⟩ j _ (fun _ _ => rfl) (fun _ _ _ => rfl), ?_, ?_, ?_⟩
   ·rcases K.find W2 hkey es.toList hks with ⟨g1, g2⟩ | ⟨j', e1, g1, g2, g3⟩
    ·exact absurd f3 (g2 e0 hm0)
    ·have h10 : e1 = e0 := inj_of_nodup_map s3 (List.mem_of_getElem? g2) hm0 (by rw [f3, g3])
     have hjj : j' = j := by
      have hnd : es.toList.Nodup := nodup_of_map s3
      have q1 := List.getElem?_eq_some_iff.1 g2
      have q2 := List.getElem?_eq_some_iff.1 f2
      exact (List.getElem_inj hnd).1 (by rw [q1.2, q2.2, h10])
     subst h10
     subst hjj
     have hmk : es.modify j' (fun e => { e with key := key, val := val }) = es.modify j' (fun e => { e with val := val }) := by
      apply Array.ext'
      rw [Array.toList_modify, Array.toList_modify, modify_eq_set _ _ _ _ f2, modify_eq_set _ _ _ _ f2, ← f3]
     simp [Instr.mapUpdate, run_underlying ht, MapKept.run_getObj_map hW2, K.check W2 false hkey, g1, hj, f3, K.stays W2 hkey, hmk, MapKept.run_setObj_map _ hW2, Result.andThen, setBlock]
   ·intro x hx
    rcases hmem x hx with ⟨hk, hv⟩ | ⟨hx0, hxk⟩
    ·have hnb := own_notmap hown hW2
     rw [hk, hf1, hv]
     exact ⟨⟨l, hkey⟩, hne, own_move hown (fun k hk => heap_setBlock_other hW2 _ (fun e1 => hnb (by rw [hk, e1])))⟩
    ·obtain ⟨a1, a2, a3⟩ := h3 x hx0
     rw [hf2 _ hxk]
     have hnb := own_notmap a3 h1
     refine ⟨a1, a2, own_move (own_move a3 (fun k hk => hfar k (own_lt a3 k hk) (fun e1 => hnb (by rw [hk, e1])) (fun e1 => ?_))) (fun k hk => heap_setBlock_other hW2 _ (fun e1 => hnb (by rw [hk, e1])))⟩
     rcases h5 x hx0 e0 hm0 (by rw [f3]; exact hxk) with h6 | h6
     ·rw [hk] at h6; cases h6
     ·exact h6 (by rw [hk, e1])
   ·intro key' hk'
    by_cases e1 : key' = key
    ·subst e1
     refine ⟨{ e0 with val := val }, ?_, f3⟩
     rw [Array.toList_modify, modify_eq_set _ _ _ _ f2]
     exact List.mem_set (List.getElem?_eq_some_iff.1 f2).1 _
    ·rw [hf2 _ e1] at hk'
     obtain ⟨x, hx, hk⟩ := h4 key' hk'
     refine ⟨x, ?_, hk⟩
     rw [Array.toList_modify, modify_eq_set _ _ _ _ f2]
     obtain ⟨i, hi⟩ := List.mem_iff_getElem?.1 hx
     refine List.mem_iff_getElem?.2 ⟨i, ?_⟩
     rw [List.getElem?_set]
     rw [if_neg (fun e2 => by subst e2; rw [f2] at hi; cases hi; exact e1 (by rw [← hk, f3]))]
     exact hi
   ·have hnew : ∀ x ∈ es.toList, x.key ≠ key → x.val.ownBlock = none ∨ x.val.ownBlock ≠ val.ownBlock := by
     intro x hx hxk
     have a3 := (h3 x hx).2.2
     rcases hloc with h6 | ⟨g', h6, h7⟩
     ·rw [h6]
      exact h5 x hx e0 hm0 (by rw [f3]; exact hxk)
     ·cases hxb : x.val.ownBlock with
      | none => exact .inl rfl
      | some g0 =>
       refine .inr (fun e1 => ?_)
       have e2 : some g0 = some g' := by rw [← h6]; exact e1
       have e3 : g0 = g' := Option.some.inj e2
       have := own_lt a3 g0 hxb
       omega
    intro x hx y hy hne'
    rcases hmem x hx with ⟨hk, hv⟩ | ⟨hx0, hxk⟩ <;> rcases hmem y hy with ⟨hk2, hv2⟩ | ⟨hy0, hyk⟩
    ·exact absurd (hk.trans hk2.symm) hne'
    ·rw [hv]
     rcases hnew y hy0 hyk with h6 | h6
     ·cases hvb : val.ownBlock with
      | none => exact .inl rfl
      | some g => exact .inr (by rw [h6]; simp)
     ·exact .inr (fun e1 => h6 e1.symm)
    ·rw [hv2]
     exact hnew x hx0 hxk
    ·exact h5 x hx0 y hy0 hne'
end Go.Proofs.Ytbpebehbfpgjbaa.GM
end
section
namespace Go.Proofs.Ytbpebehbfpgjbaa.P
open Go.RowKit Go.Proofs.YtbpebehbfpgjbaaW.PrintWords Go.Proofs.YtbpebehbfpgjbaaW.PrintLast Go.Proofs.YtbpebehbfpgjbaaW.PrintMore
set_option linter.unusedVariables false
set_option linter.unusedSimpArgs false
def Opens {α : Type} (d : Kd α) (t : TypeId) : Prop := ∀ {H : Type} {enc : TypeId × Value → H} {W : World} {fuel : Nat} {cs : List Value} {x : DataW H × List MemPlace}, DataW.trod enc Try.prog W 0 (fun _ => true) true fuel t cs = some x → ∃ a : α, d.K W a cs
theorem opens_int {t : TypeId} {k : IntKind} (ht : Try.prog.underlying t = some (.int k)) : Opens (Kd.int k) t := fun h => by
 obtain ⟨n, rfl, _⟩ := DataW.trod_int ht h
 exact ⟨n, rfl⟩
theorem opens_bool {t : TypeId} (ht : Try.prog.underlying t = some .bool) : Opens Kd.bool t := fun h => by
 obtain ⟨n, rfl, _⟩ := DataW.trod_bool ht h
 exact ⟨n, rfl⟩
theorem opens_string {t : TypeId} (ht : Try.prog.underlying t = some .string) : Opens Kd.string t := fun h => by
 obtain ⟨n, rfl, _⟩ := DataW.trod_string ht h
 exact ⟨n, rfl⟩
theorem list_choose {α : Type} {p : Nat → α → Prop} : ∀ n : Nat, (∀ i, i < n → ∃ a, p i a) → ∃ l : List α, l.length = n ∧ ∀ i a, l[i]? = some a → p i a
 | 0, _ => ⟨[], rfl, fun i a h => by simp at h⟩
 | n + 1, h => by
  obtain ⟨l, hl, hp⟩ := list_choose n (fun i hi => h i zq17)
  obtain ⟨a, ha⟩ := h n zq17
  refine ⟨l ++ [a], by simp [hl], fun i b hb => ?_⟩
  rcases Nat.lt_or_ge i n with hi | hi
  ·rw [List.getElem?_append_left zq17] at hb
   exact hp i b hb
  ·rw [List.getElem?_append_right zq17] at hb
   have : i = n := by
    have := (List.getElem?_eq_some_iff.1 hb).1
    simp at this
    omega
   subst this
   simp [hl] at hb
   subst hb
   exact ha
theorem Addr.add_add' (a : Addr) (m n : Nat) : (a.add m).add n = a.add (m + n) := by
 unfold Addr.add
 by_cases hm : m = 0
 ·subst hm; simp
 ·by_cases hn : n = 0
  ·subst hn; simp [hm]
  ·simp [hm, hn, Nat.add_assoc]
theorem len2 : ∀ cs : List Value, cs.length = 2 → ∃ a b, cs = [a, b]
 | [a, b], _ => ⟨a, b, rfl⟩
theorem len3 : ∀ cs : List Value, cs.length = 3 → ∃ a b c, cs = [a, b, c]
 | [a, b, c], _ => ⟨a, b, c, rfl⟩
theorem len7 : ∀ cs : List Value, cs.length = 7 → ∃ a b c d e f g, cs = [a, b, c, d, e, f, g]
 | [a, b, c, d, e, f, g], _ => ⟨a, b, c, d, e, f, g, rfl⟩
theorem opens_slice {α : Type} {d : Kd α} {t e : TypeId} (ht : Try.prog.underlying t = some (.slice e)) (hc : Try.prog.cellsOf e = d.sz) (hd : Opens d e) : Opens (Kd.slice e d) t := fun {H enc W fuel cs x} h => by
 rcases DataW.trod_slice ht h with ⟨rfl, _⟩ | ⟨a, len, cap, elems, rest, n, _, rfl, _, _, hl, hm, hlen, hel, _, _⟩
 ·exact ⟨[], none, 0, rfl, Nat.le_refl _, rfl, zq81, fun h => absurd h zq81⟩
 ·obtain ⟨l, hl1, hl2⟩ := list_choose (p := fun i p => ∃ c, W.cells? 0 (a.add (i * d.sz)) d.sz = some c ∧ d.K W p c) len (fun i hi => by
   have he := hel i hi
   rw [List.getElem?_eq_getElem zq17, hc, Option.bind_eq_some_iff] at he
   obtain ⟨c, h1, h2⟩ := he
   obtain ⟨p, hp⟩ := hd h2
   exact ⟨p, c, h1, hp⟩)
  refine ⟨l, some a, cap, by rw [hl1], zq17, rfl, by unfold maxLen at hm; omega, fun _ => ⟨a, rfl, fun j p hj => ?_⟩⟩
  obtain ⟨c, h1, h2⟩ := hl2 j p hj
  refine ⟨c, d.K_len h2, h2, fun i u hu => ?_⟩
  have hi : i < d.sz := by
   have := (List.getElem?_eq_some_iff.1 hu).1
   have := d.K_len h2
   omega
  have h3 := (World.cells?_some h1).2.2 i hi
  rw [Addr.add_add'] at h3
  exact h3.trans hu
theorem opens_68 : Opens k68 68 := fun {H enc W fuel cs x} h => by
 obtain ⟨xs, n, _, _, hl, hx, hf⟩ := DataW.trod_struct Try.underlying68 h
 rw [show Try.prog.cellsOf 68 = 3 from by kernel_rfl] at hl
 obtain ⟨v0, v1, v2, rfl⟩ := len3 cs hl
 have hx' : xs.length = 3 := hx
 have h0 := hf 0 ⟨ "Class", 3, 0, false, "", "", 0⟩ rfl
 rw [List.getElem?_eq_getElem zq17] at h0
 simp only [show Try.prog.cellsOf 3 = 1 from by kernel_rfl, List.drop_succ_cons, List.drop_zero, List.take_succ_cons, List.take_zero] at h0
 obtain ⟨a0, k0⟩ := opens_int Try.underlying3 h0
 have h1 := hf 1 ⟨ "Miss", 3, 1, false, "", "", 8⟩ rfl
 rw [List.getElem?_eq_getElem zq17] at h1
 simp only [show Try.prog.cellsOf 3 = 1 from by kernel_rfl, List.drop_succ_cons, List.drop_zero, List.take_succ_cons, List.take_zero] at h1
 obtain ⟨a1, k1⟩ := opens_int Try.underlying3 h1
 have h2 := hf 2 ⟨ "Of", 3, 2, false, "", "", 16⟩ rfl
 rw [List.getElem?_eq_getElem zq17] at h2
 simp only [show Try.prog.cellsOf 3 = 1 from by kernel_rfl, List.drop_succ_cons, List.drop_zero, List.take_succ_cons, List.take_zero] at h2
 obtain ⟨a2, k2⟩ := opens_int Try.underlying3 h2
 exact ⟨⟨a0, a1, a2⟩, [v0], [v1, v2], rfl, k0, [v1], [v2], rfl, k1, k2⟩
theorem opens_58 : Opens k58 58 := fun {H enc W fuel cs x} h => by
 obtain ⟨xs, n, _, _, hl, hx, hf⟩ := DataW.trod_struct Try.underlying58 h
 rw [show Try.prog.cellsOf 58 = 2 from by kernel_rfl] at hl
 obtain ⟨v0, v1, rfl⟩ := len2 cs hl
 have hx' : xs.length = 2 := hx
 have h0 := hf 0 ⟨ "Name", 9, 0, false, "", "", 0⟩ rfl
 rw [List.getElem?_eq_getElem zq17] at h0
 simp only [show Try.prog.cellsOf 9 = 1 from by kernel_rfl, List.drop_succ_cons, List.drop_zero, List.take_succ_cons, List.take_zero] at h0
 obtain ⟨a0, k0⟩ := opens_string Try.underlying9 h0
 have h1 := hf 1 ⟨ "Need", 3, 1, false, "", "", 16⟩ rfl
 rw [List.getElem?_eq_getElem zq17] at h1
 simp only [show Try.prog.cellsOf 3 = 1 from by kernel_rfl, List.drop_succ_cons, List.drop_zero, List.take_succ_cons, List.take_zero] at h1
 obtain ⟨a1, k1⟩ := opens_int Try.underlying3 h1
 exact ⟨⟨a0, a1⟩, [v0], [v1], rfl, k0, k1⟩
theorem opens_54 : Opens (Kd.slice 68 k68) 54 := opens_slice Try.underlying54 zq32 opens_68
theorem opens_56 : Opens k56 56 := fun {H enc W fuel cs x} h => by
 obtain ⟨xs, n, _, _, hl, hx, hf⟩ := DataW.trod_struct Try.underlying56 h
 rw [show Try.prog.cellsOf 56 = 2 from by kernel_rfl] at hl
 obtain ⟨v0, v1, rfl⟩ := len2 cs hl
 have hx' : xs.length = 2 := hx
 have h0 := hf 0 ⟨ "Name", 9, 0, false, "", "", 0⟩ rfl
 rw [List.getElem?_eq_getElem zq17] at h0
 simp only [show Try.prog.cellsOf 9 = 1 from by kernel_rfl, List.drop_succ_cons, List.drop_zero, List.take_succ_cons, List.take_zero] at h0
 obtain ⟨a0, k0⟩ := opens_string Try.underlying9 h0
 have h1 := hf 1 ⟨ "Claims", 54, 1, false, "", "", 16⟩ rfl
 rw [List.getElem?_eq_getElem zq17] at h1
 simp only [show Try.prog.cellsOf 54 = 1 from by kernel_rfl, List.drop_succ_cons, List.drop_zero, List.take_succ_cons, List.take_zero] at h1
 obtain ⟨a1, k1⟩ := opens_54 h1
 exact ⟨⟨a0, a1⟩, [v0], [v1], rfl, k0, k1⟩
theorem opens_45 : Opens k45 45 := fun {H enc W fuel cs x} h => by
 obtain ⟨xs, n, _, _, hl, hx, hf⟩ := DataW.trod_struct Try.underlying45 h
 rw [show Try.prog.cellsOf 45 = 7 from by kernel_rfl] at hl
 obtain ⟨v0, v1, v2, v3, v4, v5, v6, rfl⟩ := len7 cs hl
 have hx' : xs.length = 7 := hx
 have h0 := hf 0 ⟨ "Time", 3, 0, false, "", "", 0⟩ rfl
 rw [List.getElem?_eq_getElem zq17] at h0
 simp only [show Try.prog.cellsOf 3 = 1 from by kernel_rfl, List.drop_succ_cons, List.drop_zero, List.take_succ_cons, List.take_zero] at h0
 obtain ⟨a0, k0⟩ := opens_int Try.underlying3 h0
 have h1 := hf 1 ⟨ "Kind", 43, 1, false, "", "", 8⟩ rfl
 rw [List.getElem?_eq_getElem zq17] at h1
 simp only [show Try.prog.cellsOf 43 = 1 from by kernel_rfl, List.drop_succ_cons, List.drop_zero, List.take_succ_cons, List.take_zero] at h1
 obtain ⟨a1, k1⟩ := opens_int Try.underlying43 h1
 have h2 := hf 2 ⟨ "Lot", 3, 2, false, "", "", 16⟩ rfl
 rw [List.getElem?_eq_getElem zq17] at h2
 simp only [show Try.prog.cellsOf 3 = 1 from by kernel_rfl, List.drop_succ_cons, List.drop_zero, List.take_succ_cons, List.take_zero] at h2
 obtain ⟨a2, k2⟩ := opens_int Try.underlying3 h2
 have h3 := hf 3 ⟨ "Number", 3, 3, false, "", "", 24⟩ rfl
 rw [List.getElem?_eq_getElem zq17] at h3
 simp only [show Try.prog.cellsOf 3 = 1 from by kernel_rfl, List.drop_succ_cons, List.drop_zero, List.take_succ_cons, List.take_zero] at h3
 obtain ⟨a3, k3⟩ := opens_int Try.underlying3 h3
 have h4 := hf 4 ⟨ "Stand", 3, 4, false, "", "", 32⟩ rfl
 rw [List.getElem?_eq_getElem zq17] at h4
 simp only [show Try.prog.cellsOf 3 = 1 from by kernel_rfl, List.drop_succ_cons, List.drop_zero, List.take_succ_cons, List.take_zero] at h4
 obtain ⟨a4, k4⟩ := opens_int Try.underlying3 h4
 have h5 := hf 5 ⟨ "Class", 3, 5, false, "", "", 40⟩ rfl
 rw [List.getElem?_eq_getElem zq17] at h5
 simp only [show Try.prog.cellsOf 3 = 1 from by kernel_rfl, List.drop_succ_cons, List.drop_zero, List.take_succ_cons, List.take_zero] at h5
 obtain ⟨a5, k5⟩ := opens_int Try.underlying3 h5
 have h6 := hf 6 ⟨ "Out", 4, 6, false, "", "", 48⟩ rfl
 rw [List.getElem?_eq_getElem zq17] at h6
 simp only [show Try.prog.cellsOf 4 = 1 from by kernel_rfl, List.drop_succ_cons, List.drop_zero, List.take_succ_cons, List.take_zero] at h6
 obtain ⟨a6, k6⟩ := opens_bool Try.underlying4 h6
 exact ⟨⟨a0, a1, a2, a3, a4, a5, a6⟩, [v0], [v1, v2, v3, v4, v5, v6], rfl, k0, [v1], [v2, v3, v4, v5, v6], rfl, k1, [v2], [v3, v4, v5, v6], rfl, k2, [v3], [v4, v5, v6], rfl, k3, [v4], [v5, v6], rfl, k4, [v5], [v6], rfl, k5, k6⟩
theorem opens_22 : Opens (Kd.slice 58 k58) 22 := opens_slice Try.underlying22 zq32 opens_58
theorem opens_23 : Opens (Kd.slice 56 k56) 23 := opens_slice Try.underlying23 zq32 opens_56
theorem opens_26 : Opens (Kd.slice 45 k45) 26 := opens_slice Try.underlying26 zq32 opens_45
theorem cells_one {v u : Value} (h : v.cells.toList = [u]) (hu : ∀ a : Array Value, v ≠ .agg a) : v = u := by
 cases v <;> first | (simp [Value.cells] at h; exact h) | exact absurd rfl (hu _)
theorem open_runs {H : Type} {enc : TypeId × Value → H} {W : World} {v : Value} {d : DataW H} {ps : List MemPlace} (h : DataW.Trod enc Try.prog W 0 (fun _ => true) true 26 v d ps) (hv : ∀ a : Array Value, v ≠ .agg a) :
  ∃ A c l, v = .slice A (List.length (α := S45) l) c ∧ l.length ≤ c ∧ Kd.C k45 W A l.length l := by
 obtain ⟨fuel, hf⟩ := h
 obtain ⟨l, A, c, hc, hl, hC⟩ := opens_26 hf
 exact ⟨A, c, l, cells_one hc hv, hl, hC⟩
theorem open_checker {H : Type} {enc : TypeId × Value → H} {W : World} {v : Value} {d : DataW H} {ps : List MemPlace} (h : DataW.Trod enc Try.prog W 0 (fun _ => true) true 25 v d ps) :
  ∃ a0 A1 c1 l1 A2 c2 l2, v = .agg #[.int .i64 a0, .slice A1 (List.length (α := S58) l1) c1, .slice A2 (List.length (α := S56) l2) c2] ∧ (Lit.int .i64 a0).wf = true ∧ l1.length ≤ c1 ∧ Kd.C k58 W A1 l1.length l1 ∧ l2.length ≤ c2 ∧ Kd.C k56 W A2 l2.length l2 := by
 obtain ⟨fuel, h⟩ := h
 obtain ⟨cs, hcs⟩ : ∃ cs, cs = v.cells.toList := ⟨_, rfl⟩
 rw [← hcs] at h
 obtain ⟨xs, n, _, _, hl, hx, hf⟩ := DataW.trod_struct Try.underlying25 h
 rw [show Try.prog.cellsOf 25 = 3 from by kernel_rfl] at hl
 obtain ⟨v0, v1, v2, rfl⟩ := len3 cs hl
 have hx' : xs.length = 3 := hx
 have h0 := hf 0 ⟨ "Every", 3, 0, false, "", "", 0⟩ rfl
 rw [List.getElem?_eq_getElem zq17] at h0
 simp only [show Try.prog.cellsOf 3 = 1 from by kernel_rfl, List.drop_succ_cons, List.drop_zero, List.take_succ_cons, List.take_zero] at h0
 have h1 := hf 1 ⟨ "Flaws", 22, 1, false, "", "", 8⟩ rfl
 rw [List.getElem?_eq_getElem zq17] at h1
 simp only [show Try.prog.cellsOf 22 = 1 from by kernel_rfl, List.drop_succ_cons, List.drop_zero, List.take_succ_cons, List.take_zero] at h1
 obtain ⟨a1, k1⟩ := opens_22 h1
 have h2 := hf 2 ⟨ "Stands", 23, 2, false, "", "", 32⟩ rfl
 rw [List.getElem?_eq_getElem zq17] at h2
 simp only [show Try.prog.cellsOf 23 = 1 from by kernel_rfl, List.drop_succ_cons, List.drop_zero, List.take_succ_cons, List.take_zero] at h2
 obtain ⟨a2, k2⟩ := opens_23 h2
 obtain ⟨a0, e0, _, hw⟩ := DataW.trod_int Try.underlying3 h0
 obtain ⟨A1, c1, e1, hl1, hC1⟩ := k1
 obtain ⟨A2, c2, e2, hl2, hC2⟩ := k2
 cases e0
 cases e1
 cases e2
 refine ⟨a0, A1, c1, a1, A2, c2, a2, ?_, hw, hl1, hC1, hl2, hC2⟩
 cases v <;> first | (simp [Value.cells] at hcs; done) | skip
 rename_i a
 simp [Value.cells] at hcs
 congr 1
 apply Array.ext'
 simpa using hcs.symm
end Go.Proofs.Ytbpebehbfpgjbaa.P
end
section
namespace Go.Proofs.Ytbpebehbfpgjbaa.P
open Go.RowKit Go.Proofs.YtbpebehbfpgjbaaW.PrintWords Go.Proofs.YtbpebehbfpgjbaaW.PrintLast Go.Proofs.YtbpebehbfpgjbaaW.PrintMore
attribute [local go_sem] max2_int min2_int max_two min_two max_three min_three max_four min_four
set_option linter.unusedVariables false
set_option linter.unusedSimpArgs false
mutual
def culletref04_Name.j0 : Nat → ByteArray → Bool → Option (Bool)
 | 0, _, _ => none
 | k + 1, x0, x22 => if x22 = true then (some false) else (culletref04_Name.l0 k x0 0)
def culletref04_Name.l0 : Nat → ByteArray → Int → Option (Bool)
 | 0, _, _ => none
 | k + 1, x0, x3 => if x3 < (x0.size : Int) then (if 0 ≤ x3 then (if (bt x0 x3) < 97 then (if (bt x0 x3) < 48 then (if (bt x0 x3) = 45 then (culletref04_Name.l0 k x0 (wrap64 (x3 + 1))) else (some false)) else (if (bt x0 x3) > 57 then (if (bt x0 x3) = 45 then (culletref04_Name.l0 k x0 (wrap64 (x3 + 1))) else (some false)) else (culletref04_Name.l0 k x0 (wrap64 (x3 + 1))))) else (if (bt x0 x3) > 122 then (if (bt x0 x3) < 48 then (if (bt x0 x3) = 45 then (culletref04_Name.l0 k x0 (wrap64 (x3 + 1))) else (some false)) else (if (bt x0 x3) > 57 then (if (bt x0 x3) = 45 then (culletref04_Name.l0 k x0 (wrap64 (x3 + 1))) else (some false)) else (culletref04_Name.l0 k x0 (wrap64 (x3 + 1))))) else (culletref04_Name.l0 k x0 (wrap64 (x3 + 1))))) else (none)) else (some true)
end
def culletref04_Name.f (k : Nat) (a0 : ByteArray) : Option (Bool) := if (a0.size : Int) = 0 then (culletref04_Name.j0 k a0 true) else (if (a0.size : Int) > 16 then (culletref04_Name.j0 k a0 true) else (if 0 < (a0.size : Int) then (if (bt a0 0) < 97 then (culletref04_Name.j0 k a0 true) else (culletref04_Name.j0 k a0 (decide ((bt a0 0) > 122)))) else (none)))
set_option maxHeartbeats 8000000 in
set_option maxRecDepth 100000 in
theorem culletref04_Name.calls (k : Nat) (a0 : ByteArray) (r : Bool) (w : World) (h : culletref04_Name.f k a0 = some r) :
  Calls Try.prog 52 #[.string a0] w fun e w' => e = .returned (.bool r) ∧ Drawn0 w w' := by
 have H : (if (a0.size : Int) = 0 then (culletref04_Name.j0 k a0 true) else (if (a0.size : Int) > 16 then (culletref04_Name.j0 k a0 true) else (if 0 < (a0.size : Int) then (if (bt a0 0) < 97 then (culletref04_Name.j0 k a0 true) else (culletref04_Name.j0 k a0 (decide ((bt a0 0) > 122)))) else (none)))) = some r := h
 clear h
 have HC2 := Aside0.mk H
 clear H
 go_enter Try.func52, Try.ntmps52
 go_upto_region 1 with (fail)
 go_cut [22] (fun v22 wc => ∃ (kq : Nat) (x22_1 : Bool), v22 = .bool x22_1 ∧ Aside0 (culletref04_Name.j0 kq a0 x22_1 = some r) ∧ Aside0 (kq ≤ k) ∧ Drawn0 w wc)
 case first =>
  have H := HC2.out
  clear HC2
  by_cases c3 : (a0.size : Int) = 0
  ·rw [if_pos c3] at H
   have c3b0 : ((a0.size : Int) == 0) = true := beq_iff_eq.mpr c3
   have c3b1 : ((a0.size : Int) != 0) = false := bne_eq_false_iff_eq.mpr c3
   clear c3
   (first | rw [c3b0] | (simp only [i64_w, i32_w]; rw [c3b0]) | skip)
   have H' := Aside0.mk H
   clear H
   go_wp2
   go_meet
   case rel => exact ⟨_, (true), zq8, H', ⟨zq41⟩, zq34⟩
  ·rw [if_neg c3] at H
   have c3b0 : ((a0.size : Int) == 0) = false := beq_eq_false_iff_ne.mpr c3
   have c3b1 : ((a0.size : Int) != 0) = true := bne_iff_ne.mpr c3
   (first | rw [c3b0] | (simp only [i64_w, i32_w]; rw [c3b0]) | skip)
   by_cases c4 : (a0.size : Int) > 16
   ·rw [if_pos c4] at H
    have c4b0 : decide (16 < (a0.size : Int)) = true := decide_eq_true c4
    have c4b1 : decide (16 < a0.size) = true := decide_eq_true zq17
    clear c4
    have H' := Aside0.mk H
    clear H
    go_wp2
    go_meet
    case rel => exact ⟨_, (true), zq8, H', ⟨zq41⟩, zq34⟩
   ·rw [if_neg c4] at H
    have c4b0 : decide (16 < (a0.size : Int)) = false := decide_eq_false c4
    have c4b1 : decide (16 < a0.size) = false := decide_eq_false zq17
    clear c4
    by_cases c5 : 0 < (a0.size : Int)
    ·rw [if_pos c5] at H
     have c5b0 : decide (0 < (a0.size : Int)) = true := decide_eq_true c5
     have c5b1 : decide (0 < a0.size) = true := decide_eq_true zq17
     clear c5
     by_cases c7 : (bt a0 0) < 97
     ·rw [if_pos c7] at H
      have c7b0 : decide ((bt a0 0) < 97) = true := decide_eq_true c7
      clear c7
      have H' := Aside0.mk H
      clear H
      have p6 : 0 ≤ (0 : Int) := zq17
      have q6 : 0 < a0.size := (by have : (0 : Int) < (a0.size : Int) := of_decide_eq_true zq6; omega)
      have hx6 : ∀ h : 0 < a0.size, ((a0[0]'h).toNat : Int) = bt a0 0 := bt_at a0 0
      clear p6
      have qi6 : (0 < (a0.size : Int)) = True := eq_true (of_decide_eq_true zq6)
      replace q6 := eq_true q6
      go_wp2
      go_meet
      case rel => exact ⟨_, (true), zq8, H', ⟨zq41⟩, zq34⟩
     ·rw [if_neg c7] at H
      have c7b0 : decide ((bt a0 0) < 97) = false := decide_eq_false c7
      clear c7
      have H' := Aside0.mk H
      clear H
      have p6 : 0 ≤ (0 : Int) := zq17
      have q6 : 0 < a0.size := (by have : (0 : Int) < (a0.size : Int) := of_decide_eq_true zq6; omega)
      have hx6 : ∀ h : 0 < a0.size, ((a0[0]'h).toNat : Int) = bt a0 0 := bt_at a0 0
      clear p6
      have qi6 : (0 < (a0.size : Int)) = True := eq_true (of_decide_eq_true zq6)
      replace q6 := eq_true q6
      have p8 : 0 ≤ (0 : Int) := zq17
      have q8 : 0 < a0.size := (by have : (0 : Int) < (a0.size : Int) := of_decide_eq_true zq6; omega)
      have hx8 : ∀ h : 0 < a0.size, ((a0[0]'h).toNat : Int) = bt a0 0 := bt_at a0 0
      clear p8
      have qi8 : (0 < (a0.size : Int)) = True := eq_true (of_decide_eq_true zq6)
      replace q8 := eq_true q8
      go_wp2
      go_meet
      case rel => exact ⟨_, (decide ((bt a0 0) > 122)), zq8, H', ⟨zq41⟩, zq34⟩
    ·rw [if_neg c5] at H
     exact absurd H zq81
 case rest =>
  clear HC2
  try clear p2
  try clear c3
  try clear c3b0
  try clear c3b1
  try clear c4
  try clear c4b0
  try clear c4b1
  try clear c5
  try clear c5b0
  try clear c5b1
  try clear p6 p6
  try clear q6 q6
  try clear hx6
  try clear qi6
  try clear c7
  try clear c7b0
  try clear p8 p8
  try clear q8 q8
  try clear hx8
  try clear qi8
  obtain ⟨kq, x22_1, rfl, HA, HJ1, ⟨mc1, rfl⟩⟩ := hcut
  cases kq with
  | zero => exact absurd HA.out (by simp [culletref04_Name.j0])
  | succ kj1 =>
   have H := HA.out
   clear HA
   simp only [culletref04_Name.j0] at H
   by_cases c9 : x22_1 = true
   ·subst c9
    have H1 : (some false) = some r := by rw [if_pos rfl] at H; exact H
    clear H
    have H := H1
    clear H1
    obtain rfl := Option.some.inj H
    go_wp2
    go_ret
    exact ⟨zq8, zq34⟩
   ·replace c9 := Bool.eq_false_iff.mpr c9
    subst c9
    have H1 : (culletref04_Name.l0 kj1 a0 0) = some r := by rw [if_neg (show ¬ (false = true) by decide)] at H; exact H
    clear H
    have H := H1
    clear H1
    have H' := Aside0.mk H
    clear H
    go_wp2
    go_loopg [3] kj1 (fun kq v3 w' => ∃ (x3_2 : Int), v3 = .int .i64 x3_2 ∧ Aside0 (culletref04_Name.l0 kq a0 x3_2 = some r) ∧ Aside0 (kq ≤ kj1) ∧ Drawn0 w w')
    case atStart => exact ⟨(0), zq8, H', ⟨Nat.le_refl _⟩, zq34⟩
    case round =>
     clear H'
     try clear c1
     try clear p2 p2
     try clear c3
     try clear c3b0
     try clear c3b1
     try clear c4
     try clear c4b0
     try clear c4b1
     try clear c5
     try clear c5b0
     try clear c5b1
     try clear p6 p6
     try clear q6 q6
     try clear hx6
     try clear qi6
     try clear c7
     try clear c7b0
     try clear p8 p8
     try clear q8 q8
     try clear hx8
     try clear qi8
     try clear c9
     obtain ⟨x3_2, rfl, HA, HK2, ⟨m2, rfl⟩⟩ := hrel
     cases gk with
     | zero => exact absurd HA.out (by simp [culletref04_Name.l0])
     | succ k2 =>
      have H := HA.out
      clear HA
      simp only [culletref04_Name.l0] at H
      by_cases c10 : x3_2 < (a0.size : Int)
      ·rw [if_pos c10] at H
       have c10b0 : decide (x3_2 < (a0.size : Int)) = true := decide_eq_true c10
       clear c10
       by_cases c11 : 0 ≤ x3_2
       ·rw [if_pos c11] at H
        have c11b0 : decide (0 ≤ x3_2) = true := decide_eq_true c11
        clear c11
        by_cases c13 : (bt a0 x3_2) < 97
        ·rw [if_pos c13] at H
         have c13b0 : decide ((bt a0 x3_2) < 97) = true := decide_eq_true c13
         clear c13
         by_cases c14 : (bt a0 x3_2) < 48
         ·rw [if_pos c14] at H
          have c14b0 : decide ((bt a0 x3_2) < 48) = true := decide_eq_true c14
          clear c14
          by_cases c15 : (bt a0 x3_2) = 45
          ·rw [if_pos c15] at H
           have c15b0 : ((bt a0 x3_2) == 45) = true := beq_iff_eq.mpr c15
           have c15b1 : ((bt a0 x3_2) != 45) = false := bne_eq_false_iff_eq.mpr c15
           clear c15
           have H' := Aside0.mk H
           clear H
           have p12 : 0 ≤ (x3_2 : Int) := of_decide_eq_true zq6
           have q12 : x3_2 < (a0.size : Int) := of_decide_eq_true zq6
           have hx12 := bt_at a0 x3_2
           replace p12 := eq_true p12
           replace q12 := eq_true q12
           go_wp2
           go_roundg k2
           case measure => have := HJ1.out; have := HK2.out; omega
           case rel => exact ⟨(wrap64 (x3_2 + 1)), zq8, H', ⟨zq54⟩, zq34⟩
          ·rw [if_neg c15] at H
           have c15b0 : ((bt a0 x3_2) == 45) = false := beq_eq_false_iff_ne.mpr c15
           have c15b1 : ((bt a0 x3_2) != 45) = true := bne_iff_ne.mpr c15
           obtain rfl := Option.some.inj H
           have p12 : 0 ≤ (x3_2 : Int) := of_decide_eq_true zq6
           have q12 : x3_2 < (a0.size : Int) := of_decide_eq_true zq6
           have hx12 := bt_at a0 x3_2
           replace p12 := eq_true p12
           replace q12 := eq_true q12
           go_wp2
           go_ret
           exact ⟨zq8, zq34⟩
         ·rw [if_neg c14] at H
          have c14b0 : decide ((bt a0 x3_2) < 48) = false := decide_eq_false c14
          clear c14
          by_cases c16 : (bt a0 x3_2) > 57
          ·rw [if_pos c16] at H
           have c16b0 : decide (57 < (bt a0 x3_2)) = true := decide_eq_true c16
           clear c16
           by_cases c17 : (bt a0 x3_2) = 45
           ·rw [if_pos c17] at H
            have c17b0 : ((bt a0 x3_2) == 45) = true := beq_iff_eq.mpr c17
            have c17b1 : ((bt a0 x3_2) != 45) = false := bne_eq_false_iff_eq.mpr c17
            clear c17
            have H' := Aside0.mk H
            clear H
            have p12 : 0 ≤ (x3_2 : Int) := of_decide_eq_true zq6
            have q12 : x3_2 < (a0.size : Int) := of_decide_eq_true zq6
            have hx12 := bt_at a0 x3_2
            replace p12 := eq_true p12
            replace q12 := eq_true q12
            go_wp2
            go_roundg k2
            case measure => have := HJ1.out; have := HK2.out; omega
            case rel => exact ⟨(wrap64 (x3_2 + 1)), zq8, H', ⟨zq54⟩, zq34⟩
           ·rw [if_neg c17] at H
            have c17b0 : ((bt a0 x3_2) == 45) = false := beq_eq_false_iff_ne.mpr c17
            have c17b1 : ((bt a0 x3_2) != 45) = true := bne_iff_ne.mpr c17
            obtain rfl := Option.some.inj H
            have p12 : 0 ≤ (x3_2 : Int) := of_decide_eq_true zq6
            have q12 : x3_2 < (a0.size : Int) := of_decide_eq_true zq6
            have hx12 := bt_at a0 x3_2
            replace p12 := eq_true p12
            replace q12 := eq_true q12
            go_wp2
            go_ret
            exact ⟨zq8, zq34⟩
          ·rw [if_neg c16] at H
           have c16b0 : decide (57 < (bt a0 x3_2)) = false := decide_eq_false c16
           clear c16
           have H' := Aside0.mk H
           clear H
           have p12 : 0 ≤ (x3_2 : Int) := of_decide_eq_true zq6
           have q12 : x3_2 < (a0.size : Int) := of_decide_eq_true zq6
           have hx12 := bt_at a0 x3_2
           replace p12 := eq_true p12
           replace q12 := eq_true q12
           go_wp2
           go_roundg k2
           case measure => have := HJ1.out; have := HK2.out; omega
           case rel => exact ⟨(wrap64 (x3_2 + 1)), zq8, H', ⟨zq54⟩, zq34⟩
        ·rw [if_neg c13] at H
         have c13b0 : decide ((bt a0 x3_2) < 97) = false := decide_eq_false c13
         clear c13
         by_cases c18 : (bt a0 x3_2) > 122
         ·rw [if_pos c18] at H
          have c18b0 : decide (122 < (bt a0 x3_2)) = true := decide_eq_true c18
          clear c18
          by_cases c19 : (bt a0 x3_2) < 48
          ·rw [if_pos c19] at H
           have c19b0 : decide ((bt a0 x3_2) < 48) = true := decide_eq_true c19
           clear c19
           by_cases c20 : (bt a0 x3_2) = 45
           ·rw [if_pos c20] at H
            have c20b0 : ((bt a0 x3_2) == 45) = true := beq_iff_eq.mpr c20
            have c20b1 : ((bt a0 x3_2) != 45) = false := bne_eq_false_iff_eq.mpr c20
            clear c20
            have H' := Aside0.mk H
            clear H
            have p12 : 0 ≤ (x3_2 : Int) := of_decide_eq_true zq6
            have q12 : x3_2 < (a0.size : Int) := of_decide_eq_true zq6
            have hx12 := bt_at a0 x3_2
            replace p12 := eq_true p12
            replace q12 := eq_true q12
            go_wp2
            go_roundg k2
            case measure => have := HJ1.out; have := HK2.out; omega
            case rel => exact ⟨(wrap64 (x3_2 + 1)), zq8, H', ⟨zq54⟩, zq34⟩
           ·rw [if_neg c20] at H
            have c20b0 : ((bt a0 x3_2) == 45) = false := beq_eq_false_iff_ne.mpr c20
            have c20b1 : ((bt a0 x3_2) != 45) = true := bne_iff_ne.mpr c20
            obtain rfl := Option.some.inj H
            have p12 : 0 ≤ (x3_2 : Int) := of_decide_eq_true zq6
            have q12 : x3_2 < (a0.size : Int) := of_decide_eq_true zq6
            have hx12 := bt_at a0 x3_2
            replace p12 := eq_true p12
            replace q12 := eq_true q12
            go_wp2
            go_ret
            exact ⟨zq8, zq34⟩
          ·rw [if_neg c19] at H
           have c19b0 : decide ((bt a0 x3_2) < 48) = false := decide_eq_false c19
           clear c19
           by_cases c21 : (bt a0 x3_2) > 57
           ·rw [if_pos c21] at H
            have c21b0 : decide (57 < (bt a0 x3_2)) = true := decide_eq_true c21
            clear c21
            by_cases c22 : (bt a0 x3_2) = 45
            ·rw [if_pos c22] at H
             have c22b0 : ((bt a0 x3_2) == 45) = true := beq_iff_eq.mpr c22
             have c22b1 : ((bt a0 x3_2) != 45) = false := bne_eq_false_iff_eq.mpr c22
             clear c22
             have H' := Aside0.mk H
             clear H
             have p12 : 0 ≤ (x3_2 : Int) := of_decide_eq_true zq6
             have q12 : x3_2 < (a0.size : Int) := of_decide_eq_true zq6
             have hx12 := bt_at a0 x3_2
             replace p12 := eq_true p12
             replace q12 := eq_true q12
             go_wp2
             go_roundg k2
             case measure => have := HJ1.out; have := HK2.out; omega
             case rel => exact ⟨(wrap64 (x3_2 + 1)), zq8, H', ⟨zq54⟩, zq34⟩
            ·rw [if_neg c22] at H
             have c22b0 : ((bt a0 x3_2) == 45) = false := beq_eq_false_iff_ne.mpr c22
             have c22b1 : ((bt a0 x3_2) != 45) = true := bne_iff_ne.mpr c22
             obtain rfl := Option.some.inj H
             have p12 : 0 ≤ (x3_2 : Int) := of_decide_eq_true zq6
             have q12 : x3_2 < (a0.size : Int) := of_decide_eq_true zq6
             have hx12 := bt_at a0 x3_2
             replace p12 := eq_true p12
             replace q12 := eq_true q12
             go_wp2
             go_ret
             exact ⟨zq8, zq34⟩
           ·rw [if_neg c21] at H
            have c21b0 : decide (57 < (bt a0 x3_2)) = false := decide_eq_false c21
            clear c21
            have H' := Aside0.mk H
            clear H
            have p12 : 0 ≤ (x3_2 : Int) := of_decide_eq_true zq6
            have q12 : x3_2 < (a0.size : Int) := of_decide_eq_true zq6
            have hx12 := bt_at a0 x3_2
            replace p12 := eq_true p12
            replace q12 := eq_true q12
            go_wp2
            go_roundg k2
            case measure => have := HJ1.out; have := HK2.out; omega
            case rel => exact ⟨(wrap64 (x3_2 + 1)), zq8, H', ⟨zq54⟩, zq34⟩
         ·rw [if_neg c18] at H
          have c18b0 : decide (122 < (bt a0 x3_2)) = false := decide_eq_false c18
          clear c18
          have H' := Aside0.mk H
          clear H
          have p12 : 0 ≤ (x3_2 : Int) := of_decide_eq_true zq6
          have q12 : x3_2 < (a0.size : Int) := of_decide_eq_true zq6
          have hx12 := bt_at a0 x3_2
          replace p12 := eq_true p12
          replace q12 := eq_true q12
          go_wp2
          go_roundg k2
          case measure => have := HJ1.out; have := HK2.out; omega
          case rel => exact ⟨(wrap64 (x3_2 + 1)), zq8, H', ⟨zq54⟩, zq34⟩
       ·rw [if_neg c11] at H
        exact absurd H zq81
      ·rw [if_neg c10] at H
       have c10b0 : decide (x3_2 < (a0.size : Int)) = false := decide_eq_false c10
       clear c10
       obtain rfl := Option.some.inj H
       go_wp2
       go_ret
       exact ⟨zq8, zq34⟩
def culletref07_flaw.l0 : Nat → ByteArray → Int → Int → List (S58) → List (S56) → Option (Int)
 | 0, _, _, _, _, _ => none
 | k + 1, x1, x5, x106000, x106001, x106002 => if x5 < (x106001.length : Int) then (if 0 ≤ x5 then (if ((rd_T58 x106001 x5).f0).toList = x1.toList then (some x5) else (culletref07_flaw.l0 k x1 (wrap64 (x5 + 1)) x106000 x106001 x106002)) else (none)) else (some (-1))
def culletref07_flaw.f (k : Nat) (a0_0 : Int) (l0_1 : List (S58)) (l0_2 : List (S56)) (a1 : ByteArray) : Option (Int) := culletref07_flaw.l0 k a1 0 a0_0 l0_1 l0_2
set_option maxHeartbeats 8000000 in
set_option maxRecDepth 100000 in
theorem culletref07_flaw.calls (k : Nat) (a0_0 : Int) (A0_1 : Option Addr) (c0_1 : Nat) (l0_1 : List (S58)) (A0_2 : Option Addr) (c0_2 : Nat) (l0_2 : List (S56)) (a1 : ByteArray) (r : Int) (w : World) (hr0_1 : Kd.C k58 w A0_1 l0_1.length l0_1) (hc0_1 : l0_1.length ≤ c0_1) (hr0_2 : Kd.C k56 w A0_2 l0_2.length l0_2) (hc0_2 : l0_2.length ≤ c0_2) (h : culletref07_flaw.f k a0_0 l0_1 l0_2 a1 = some r) :
  Calls Try.prog 53 #[.agg #[.int .i64 a0_0, .slice A0_1 l0_1.length c0_1, .slice A0_2 l0_2.length c0_2], .string a1] w fun e w' => e = .returned (.int .i64 r) ∧ Below w.heap.size w w' := by
 have hu25 := Try.underlying25
 have HR0_1 := Aside0.mk hr0_1
 have HC0_1 := Aside0.mk hc0_1
 clear hr0_1 hc0_1
 have HR0_2 := Aside0.mk hr0_2
 have HC0_2 := Aside0.mk hc0_2
 clear hr0_2 hc0_2
 have HB := Aside0.mk (Below.refl w.heap.size w)
 have H : (culletref07_flaw.l0 k a1 0 a0_0 l0_1 l0_2) = some r := h
 clear h
 have H' := Aside0.mk H
 clear H
 go_enter Try.func53, Try.ntmps53
 go_wp2_with (first | ((with_reducible refine gate_dst (N := 2) rfl ?_); refine box_event ?hg (N := 2) ?hd (cs := #[.int .i64 a0_0, .slice A0_1 l0_1.length c0_1, .slice A0_2 l0_2.length c0_2]) (t := 25) ?hr ?_; (case hd => rfl); (case hg => rfl); (case hr => exact zq9); intro gb105 hg w3 hbox hb; have n_ := as4 (below_step zq2 hb) (hbox) ((zq29 : w.heap.size ≤ gb105)) ((zq29 : w.heap.size ≤ gb105)); clear HB hb hbox hg; obtain ⟨HB, BK105, GW105, GE105⟩ := n_))
 go_loopg [5] k (fun kq v5 w' => ∃ (x5_1 : Int), v5 = .int .i64 x5_1 ∧ Aside0 (culletref07_flaw.l0 kq a1 x5_1 a0_0 l0_1 l0_2 = some r) ∧ Aside0 (kq ≤ k) ∧ Aside0 (w'.heap[gb105]? = some (.cells #[.int .i64 a0_0, (.slice A0_1 l0_1.length c0_1), (.slice A0_2 l0_2.length c0_2)] 25 (0, 0))) ∧ Aside0 (Below w.heap.size w w'))
 case atStart => exact ⟨(0), zq8, H', ⟨Nat.le_refl _⟩, ⟨(zq0 BK105.out)⟩, ⟨zq56⟩⟩
 case round =>
  clear H'
  try clear p2
  obtain ⟨x5_1, rfl, HA, HK1, BK105, HB⟩ := hrel
  cases gk with
  | zero => exact absurd HA.out (by simp [culletref07_flaw.l0])
  | succ k1 =>
   have H := HA.out
   clear HA
   simp only [culletref07_flaw.l0] at H
   by_cases c4 : x5_1 < (l0_1.length : Int)
   ·rw [if_pos c4] at H
    have c4b0 : decide (x5_1 < (l0_1.length : Int)) = true := decide_eq_true c4
    clear c4
    by_cases c5 : 0 ≤ x5_1
    ·rw [if_pos c5] at H
     have c5b0 : decide (0 ≤ x5_1) = true := decide_eq_true c5
     clear c5
     by_cases c6 : ((rd_T58 l0_1 x5_1).f0).toList = a1.toList
     ·rw [if_pos c6] at H
      have c6b0 : (((rd_T58 l0_1 x5_1).f0).toList == a1.toList) = true := beq_iff_eq.mpr c6
      have c6b1 : (((rd_T58 l0_1 x5_1).f0).toList != a1.toList) = false := bne_eq_false_iff_eq.mpr c6
      clear c6
      obtain rfl := Option.some.inj H
      obtain ⟨hcz7_0, hcz7_1, hcz7_2, hfz7_0, hfz7_1, hfz7_2⟩ := bcs3 BK105.out
      have p106 : 0 ≤ (x5_1 : Int) := of_decide_eq_true zq6
      have q106 : x5_1 < (l0_1.length : Int) := of_decide_eq_true zq6
      obtain ⟨ad106, e106, hx106_0, hx106_1⟩ := at_T58 HR0_1.out x5_1 p106 q106
      cases e106
      replace hx106_0 := hcx HB.out hx106_0
      replace hx106_1 := hcx HB.out hx106_1
      replace p106 := eq_true p106
      replace q106 := eq_true q106
      go_wp2
      go_ret
      exact ⟨zq7, zq56⟩
     ·rw [if_neg c6] at H
      have c6b0 : (((rd_T58 l0_1 x5_1).f0).toList == a1.toList) = false := beq_eq_false_iff_ne.mpr c6
      have c6b1 : (((rd_T58 l0_1 x5_1).f0).toList != a1.toList) = true := bne_iff_ne.mpr c6
      have H' := Aside0.mk H
      clear H
      obtain ⟨hcz8_0, hcz8_1, hcz8_2, hfz8_0, hfz8_1, hfz8_2⟩ := bcs3 BK105.out
      have p106 : 0 ≤ (x5_1 : Int) := of_decide_eq_true zq6
      have q106 : x5_1 < (l0_1.length : Int) := of_decide_eq_true zq6
      obtain ⟨ad106, e106, hx106_0, hx106_1⟩ := at_T58 HR0_1.out x5_1 p106 q106
      cases e106
      replace hx106_0 := hcx HB.out hx106_0
      replace hx106_1 := hcx HB.out hx106_1
      replace p106 := eq_true p106
      replace q106 := eq_true q106
      go_wp2
      go_roundg k1
      case measure => have := HK1.out; omega
      case rel => exact ⟨(wrap64 (x5_1 + 1)), zq8, H', ⟨zq86⟩, ⟨(zq0 BK105.out)⟩, ⟨zq56⟩⟩
    ·rw [if_neg c5] at H
     exact absurd H zq81
   ·rw [if_neg c4] at H
    have c4b0 : decide (x5_1 < (l0_1.length : Int)) = false := decide_eq_false c4
    clear c4
    obtain rfl := Option.some.inj H
    obtain ⟨hcz9_0, hcz9_1, hcz9_2, hfz9_0, hfz9_1, hfz9_2⟩ := bcs3 BK105.out
    go_wp2
    go_ret
    exact ⟨zq7, zq56⟩
def culletref07_stand.l0 : Nat → ByteArray → Int → Int → List (S58) → List (S56) → Option (Int)
 | 0, _, _, _, _, _ => none
 | k + 1, x1, x5, x108000, x108001, x108002 => if x5 < (x108002.length : Int) then (if 0 ≤ x5 then (if ((rd_T56 x108002 x5).f0).toList = x1.toList then (some x5) else (culletref07_stand.l0 k x1 (wrap64 (x5 + 1)) x108000 x108001 x108002)) else (none)) else (some (-1))
def culletref07_stand.f (k : Nat) (a0_0 : Int) (l0_1 : List (S58)) (l0_2 : List (S56)) (a1 : ByteArray) : Option (Int) := culletref07_stand.l0 k a1 0 a0_0 l0_1 l0_2
set_option maxHeartbeats 8000000 in
set_option maxRecDepth 100000 in
theorem culletref07_stand.calls (k : Nat) (a0_0 : Int) (A0_1 : Option Addr) (c0_1 : Nat) (l0_1 : List (S58)) (A0_2 : Option Addr) (c0_2 : Nat) (l0_2 : List (S56)) (a1 : ByteArray) (r : Int) (w : World) (hr0_1 : Kd.C k58 w A0_1 l0_1.length l0_1) (hc0_1 : l0_1.length ≤ c0_1) (hr0_2 : Kd.C k56 w A0_2 l0_2.length l0_2) (hc0_2 : l0_2.length ≤ c0_2) (h : culletref07_stand.f k a0_0 l0_1 l0_2 a1 = some r) :
  Calls Try.prog 54 #[.agg #[.int .i64 a0_0, .slice A0_1 l0_1.length c0_1, .slice A0_2 l0_2.length c0_2], .string a1] w fun e w' => e = .returned (.int .i64 r) ∧ Below w.heap.size w w' := by
 have hu25 := Try.underlying25
 have HR0_1 := Aside0.mk hr0_1
 have HC0_1 := Aside0.mk hc0_1
 clear hr0_1 hc0_1
 have HR0_2 := Aside0.mk hr0_2
 have HC0_2 := Aside0.mk hc0_2
 clear hr0_2 hc0_2
 have HB := Aside0.mk (Below.refl w.heap.size w)
 have H : (culletref07_stand.l0 k a1 0 a0_0 l0_1 l0_2) = some r := h
 clear h
 have H' := Aside0.mk H
 clear H
 go_enter Try.func54, Try.ntmps54
 go_wp2_with (first | ((with_reducible refine gate_dst (N := 2) rfl ?_); refine box_event ?hg (N := 2) ?hd (cs := #[.int .i64 a0_0, .slice A0_1 l0_1.length c0_1, .slice A0_2 l0_2.length c0_2]) (t := 25) ?hr ?_; (case hd => rfl); (case hg => rfl); (case hr => exact zq9); intro gb107 hg w3 hbox hb; have n_ := as4 (below_step zq2 hb) (hbox) ((zq29 : w.heap.size ≤ gb107)) ((zq29 : w.heap.size ≤ gb107)); clear HB hb hbox hg; obtain ⟨HB, BK107, GW107, GE107⟩ := n_))
 go_loopg [5] k (fun kq v5 w' => ∃ (x5_1 : Int), v5 = .int .i64 x5_1 ∧ Aside0 (culletref07_stand.l0 kq a1 x5_1 a0_0 l0_1 l0_2 = some r) ∧ Aside0 (kq ≤ k) ∧ Aside0 (w'.heap[gb107]? = some (.cells #[.int .i64 a0_0, (.slice A0_1 l0_1.length c0_1), (.slice A0_2 l0_2.length c0_2)] 25 (0, 0))) ∧ Aside0 (Below w.heap.size w w'))
 case atStart => exact ⟨(0), zq8, H', ⟨Nat.le_refl _⟩, ⟨(zq0 BK107.out)⟩, ⟨zq57⟩⟩
 case round =>
  clear H'
  try clear p2
  obtain ⟨x5_1, rfl, HA, HK1, BK107, HB⟩ := hrel
  cases gk with
  | zero => exact absurd HA.out (by simp [culletref07_stand.l0])
  | succ k1 =>
   have H := HA.out
   clear HA
   simp only [culletref07_stand.l0] at H
   by_cases c4 : x5_1 < (l0_2.length : Int)
   ·rw [if_pos c4] at H
    have c4b0 : decide (x5_1 < (l0_2.length : Int)) = true := decide_eq_true c4
    clear c4
    by_cases c5 : 0 ≤ x5_1
    ·rw [if_pos c5] at H
     have c5b0 : decide (0 ≤ x5_1) = true := decide_eq_true c5
     clear c5
     by_cases c6 : ((rd_T56 l0_2 x5_1).f0).toList = a1.toList
     ·rw [if_pos c6] at H
      have c6b0 : (((rd_T56 l0_2 x5_1).f0).toList == a1.toList) = true := beq_iff_eq.mpr c6
      have c6b1 : (((rd_T56 l0_2 x5_1).f0).toList != a1.toList) = false := bne_eq_false_iff_eq.mpr c6
      clear c6
      obtain rfl := Option.some.inj H
      obtain ⟨hcz7_0, hcz7_1, hcz7_2, hfz7_0, hfz7_1, hfz7_2⟩ := bcs3 BK107.out
      have p108 : 0 ≤ (x5_1 : Int) := of_decide_eq_true zq6
      have q108 : x5_1 < (l0_2.length : Int) := of_decide_eq_true zq6
      obtain ⟨ad108, A108_1, c108_1, e108, hx108_0, hx108_1, hl108_1, hi108_1⟩ := at_T56 HR0_2.out x5_1 p108 q108
      cases e108
      replace hx108_0 := hcx HB.out hx108_0
      replace hx108_1 := hcx HB.out hx108_1
      have HR108_1 := Aside0.mk hi108_1
      have HC108_1 := Aside0.mk hl108_1
      clear hi108_1 hl108_1
      replace p108 := eq_true p108
      replace q108 := eq_true q108
      go_wp2
      go_ret
      exact ⟨zq7, zq57⟩
     ·rw [if_neg c6] at H
      have c6b0 : (((rd_T56 l0_2 x5_1).f0).toList == a1.toList) = false := beq_eq_false_iff_ne.mpr c6
      have c6b1 : (((rd_T56 l0_2 x5_1).f0).toList != a1.toList) = true := bne_iff_ne.mpr c6
      have H' := Aside0.mk H
      clear H
      obtain ⟨hcz8_0, hcz8_1, hcz8_2, hfz8_0, hfz8_1, hfz8_2⟩ := bcs3 BK107.out
      have p108 : 0 ≤ (x5_1 : Int) := of_decide_eq_true zq6
      have q108 : x5_1 < (l0_2.length : Int) := of_decide_eq_true zq6
      obtain ⟨ad108, A108_1, c108_1, e108, hx108_0, hx108_1, hl108_1, hi108_1⟩ := at_T56 HR0_2.out x5_1 p108 q108
      cases e108
      replace hx108_0 := hcx HB.out hx108_0
      replace hx108_1 := hcx HB.out hx108_1
      have HR108_1 := Aside0.mk hi108_1
      have HC108_1 := Aside0.mk hl108_1
      clear hi108_1 hl108_1
      replace p108 := eq_true p108
      replace q108 := eq_true q108
      go_wp2
      go_roundg k1
      case measure => have := HK1.out; omega
      case rel => exact ⟨(wrap64 (x5_1 + 1)), zq8, H', ⟨zq86⟩, ⟨(zq0 BK107.out)⟩, ⟨zq57⟩⟩
    ·rw [if_neg c5] at H
     exact absurd H zq81
   ·rw [if_neg c4] at H
    have c4b0 : decide (x5_1 < (l0_2.length : Int)) = false := decide_eq_false c4
    clear c4
    obtain rfl := Option.some.inj H
    obtain ⟨hcz9_0, hcz9_1, hcz9_2, hfz9_0, hfz9_1, hfz9_2⟩ := bcs3 BK107.out
    go_wp2
    go_ret
    exact ⟨zq7, zq57⟩
mutual
def culletref07_checkStand.l0 : Nat → Int → Int → List (S58) → List (S56) → ByteArray → List (S68) → Option (Int)
 | 0, _, _, _, _, _, _ => none
 | k + 1, x5, x110000, x110001, x110002, x111000, x111001 => if x5 < (x111001.length : Int) then (if 0 ≤ x5 then (if ((rd_T68 x111001 x5).f0) < 0 then (culletref07_checkStand.j1 k x5 true x110000 x110001 x110002 x111000 x111001 ((rd_T68 x111001 x5).f0) ((rd_T68 x111001 x5).f1) ((rd_T68 x111001 x5).f2)) else (culletref07_checkStand.j1 k x5 (decide (((rd_T68 x111001 x5).f0) ≥ (x110001.length : Int))) x110000 x110001 x110002 x111000 x111001 ((rd_T68 x111001 x5).f0) ((rd_T68 x111001 x5).f1) ((rd_T68 x111001 x5).f2))) else (none)) else (some 0)
def culletref07_checkStand.j1 : Nat → Int → Bool → Int → List (S58) → List (S56) → ByteArray → List (S68) → Int → Int → Int → Option (Int)
 | 0, _, _, _, _, _, _, _, _, _, _ => none
 | k + 1, x5, x34, x110000, x110001, x110002, x111000, x111001, x113000, x113001, x113002 => if x34 = true then (some 7) else (culletref07_checkStand.l1 k x5 0 x110000 x110001 x110002 x111000 x111001 x113000 x113001 x113002)
def culletref07_checkStand.l1 : Nat → Int → Int → Int → List (S58) → List (S56) → ByteArray → List (S68) → Int → Int → Int → Option (Int)
 | 0, _, _, _, _, _, _, _, _, _, _ => none
 | k + 1, x5, x7, x110000, x110001, x110002, x111000, x111001, x113000, x113001, x113002 => if x7 < x5 then (if 0 ≤ x7 then (if x7 < (x111001.length : Int) then (if ((rd_T68 x111001 x7).f0) = x113000 then (some 6) else (culletref07_checkStand.l1 k x5 (wrap64 (x7 + 1)) x110000 x110001 x110002 x111000 x111001 x113000 x113001 x113002)) else (none)) else (none)) else (if x113002 < 1 then (some 1) else (if x113002 > 1000 then (some 1) else (if x113001 < 0 then (some 1) else (if x113001 > x113002 then (some 1) else (culletref07_checkStand.l0 k (wrap64 (x5 + 1)) x110000 x110001 x110002 x111000 x111001)))))
end
def culletref07_checkStand.f (k : Nat) (a0_0 : Int) (l0_1 : List (S58)) (l0_2 : List (S56)) (a1_0 : ByteArray) (l1_1 : List (S68)) : Option (Int) := if (l1_1.length : Int) > 8 then (some 3) else (culletref07_checkStand.l0 k 0 a0_0 l0_1 l0_2 a1_0 l1_1)
set_option maxHeartbeats 8000000 in
set_option maxRecDepth 100000 in
theorem culletref07_checkStand.calls (k : Nat) (a0_0 : Int) (A0_1 : Option Addr) (c0_1 : Nat) (l0_1 : List (S58)) (A0_2 : Option Addr) (c0_2 : Nat) (l0_2 : List (S56)) (a1_0 : ByteArray) (A1_1 : Option Addr) (c1_1 : Nat) (l1_1 : List (S68)) (r : Int) (w : World) (hr0_1 : Kd.C k58 w A0_1 l0_1.length l0_1) (hc0_1 : l0_1.length ≤ c0_1) (hr0_2 : Kd.C k56 w A0_2 l0_2.length l0_2) (hc0_2 : l0_2.length ≤ c0_2) (hr1_1 : Kd.C k68 w A1_1 l1_1.length l1_1) (hc1_1 : l1_1.length ≤ c1_1) (h : culletref07_checkStand.f k a0_0 l0_1 l0_2 a1_0 l1_1 = some r) :
  Calls Try.prog 55 #[.agg #[.int .i64 a0_0, .slice A0_1 l0_1.length c0_1, .slice A0_2 l0_2.length c0_2], .agg #[.string a1_0, .slice A1_1 l1_1.length c1_1]] w fun e w' => e = .returned (.int .i64 r) ∧ Below w.heap.size w w' := by
 have hu25 := Try.underlying25
 have hu56 := Try.underlying56
 have hu68 := Try.underlying68
 have HR0_1 := Aside0.mk hr0_1
 have HC0_1 := Aside0.mk hc0_1
 clear hr0_1 hc0_1
 have HR0_2 := Aside0.mk hr0_2
 have HC0_2 := Aside0.mk hc0_2
 clear hr0_2 hc0_2
 have HR1_1 := Aside0.mk hr1_1
 have HC1_1 := Aside0.mk hc1_1
 clear hr1_1 hc1_1
 have HB := Aside0.mk (Below.refl w.heap.size w)
 have H : (if (l1_1.length : Int) > 8 then (some 3) else (culletref07_checkStand.l0 k 0 a0_0 l0_1 l0_2 a1_0 l1_1)) = some r := h
 clear h
 by_cases c3 : (l1_1.length : Int) > 8
 ·rw [if_pos c3] at H
  have c3b0 : decide (8 < (l1_1.length : Int)) = true := decide_eq_true c3
  have c3b1 : decide (8 < l1_1.length) = true := decide_eq_true zq17
  clear c3
  obtain rfl := Option.some.inj H
  go_enter Try.func55, Try.ntmps55
  go_wp2_with (first | ((with_reducible refine gate_dst (N := 2) rfl ?_); (try (refine gate_guard zq58 ?_; dsimp only)); refine box_event ?hg (N := 2) ?hd (cs := #[.int .i64 a0_0, .slice A0_1 l0_1.length c0_1, .slice A0_2 l0_2.length c0_2]) (t := 25) ?hr ?_; (case hd => rfl); (case hg => rfl); (case hr => exact zq9); intro gb109 hg w4 hbox hb; have n_ := as4 (below_step zq2 hb) (hbox) ((zq29 : w.heap.size ≤ gb109)) ((zq29 : w.heap.size ≤ gb109)); clear HB hb hbox hg; obtain ⟨HB, BK109, GW109, GE109⟩ := n_) | ((with_reducible refine gate_dst (N := 3) rfl ?_); (try (refine gate_guard zq58 ?_; dsimp only)); refine box_event ?hg (N := 3) ?hd (cs := #[.string a1_0, .slice A1_1 l1_1.length c1_1]) (t := 56) ?hr ?_; (case hd => rfl); (case hg => rfl); (case hr => exact zq9); intro gb110 hg w5 hbox hb; have n_ := as7 (blk_below (zq0 BK109.out) hb) (below_step zq26 hb) (hbox) ((zq68 : w.heap.size ≤ gb110)) ((zq68 : w.heap.size ≤ gb110)) ((zq64 : gb109 ≠ gb110)) ((zq65 : gb110 ≠ gb109)); clear BK109 HB hb hbox hg; obtain ⟨BK109, HB, BK110, GW110, GE110, NB109_110, NB110_109⟩ := n_; have hnb6 := NB110_109.out; have hnc6 := NB109_110.out; obtain ⟨hcz7_0, hcz7_1, hfz7_0, hfz7_1⟩ := bcs2 BK110.out))
  repeat (go_quiet (first | ((with_reducible refine gate_dst (N := 2) rfl ?_); (try (refine gate_guard zq58 ?_; dsimp only)); refine box_event ?hg (N := 2) ?hd (cs := #[.int .i64 a0_0, .slice A0_1 l0_1.length c0_1, .slice A0_2 l0_2.length c0_2]) (t := 25) ?hr ?_; (case hd => rfl); (case hg => rfl); (case hr => exact zq9); intro gb109 hg w4 hbox hb; have n_ := as4 (below_step zq2 hb) (hbox) ((zq29 : w.heap.size ≤ gb109)) ((zq29 : w.heap.size ≤ gb109)); clear HB hb hbox hg; obtain ⟨HB, BK109, GW109, GE109⟩ := n_) | ((with_reducible refine gate_dst (N := 3) rfl ?_); (try (refine gate_guard zq58 ?_; dsimp only)); refine box_event ?hg (N := 3) ?hd (cs := #[.string a1_0, .slice A1_1 l1_1.length c1_1]) (t := 56) ?hr ?_; (case hd => rfl); (case hg => rfl); (case hr => exact zq9); intro gb110 hg w5 hbox hb; have n_ := as7 (blk_below (zq0 BK109.out) hb) (below_step zq26 hb) (hbox) ((zq68 : w.heap.size ≤ gb110)) ((zq68 : w.heap.size ≤ gb110)) ((zq64 : gb109 ≠ gb110)) ((zq65 : gb110 ≠ gb109)); clear BK109 HB hb hbox hg; obtain ⟨BK109, HB, BK110, GW110, GE110, NB109_110, NB110_109⟩ := n_; have hnb6 := NB110_109.out; have hnc6 := NB109_110.out; obtain ⟨hcz7_0, hcz7_1, hfz7_0, hfz7_1⟩ := bcs2 BK110.out)); try go_wp2_with (first | ((with_reducible refine gate_dst (N := 2) rfl ?_); (try (refine gate_guard zq58 ?_; dsimp only)); refine box_event ?hg (N := 2) ?hd (cs := #[.int .i64 a0_0, .slice A0_1 l0_1.length c0_1, .slice A0_2 l0_2.length c0_2]) (t := 25) ?hr ?_; (case hd => rfl); (case hg => rfl); (case hr => exact zq9); intro gb109 hg w4 hbox hb; have n_ := as4 (below_step zq2 hb) (hbox) ((zq29 : w.heap.size ≤ gb109)) ((zq29 : w.heap.size ≤ gb109)); clear HB hb hbox hg; obtain ⟨HB, BK109, GW109, GE109⟩ := n_) | ((with_reducible refine gate_dst (N := 3) rfl ?_); (try (refine gate_guard zq58 ?_; dsimp only)); refine box_event ?hg (N := 3) ?hd (cs := #[.string a1_0, .slice A1_1 l1_1.length c1_1]) (t := 56) ?hr ?_; (case hd => rfl); (case hg => rfl); (case hr => exact zq9); intro gb110 hg w5 hbox hb; have n_ := as7 (blk_below (zq0 BK109.out) hb) (below_step zq26 hb) (hbox) ((zq68 : w.heap.size ≤ gb110)) ((zq68 : w.heap.size ≤ gb110)) ((zq64 : gb109 ≠ gb110)) ((zq65 : gb110 ≠ gb109)); clear BK109 HB hb hbox hg; obtain ⟨BK109, HB, BK110, GW110, GE110, NB109_110, NB110_109⟩ := n_; have hnb6 := NB110_109.out; have hnc6 := NB109_110.out; obtain ⟨hcz7_0, hcz7_1, hfz7_0, hfz7_1⟩ := bcs2 BK110.out)))
  go_ret
  exact ⟨zq7, zq38⟩
 ·rw [if_neg c3] at H
  have c3b0 : decide (8 < (l1_1.length : Int)) = false := decide_eq_false c3
  have c3b1 : decide (8 < l1_1.length) = false := decide_eq_false zq17
  clear c3
  have H' := Aside0.mk H
  clear H
  go_enter Try.func55, Try.ntmps55
  go_wp2_with (first | ((with_reducible refine gate_dst (N := 2) rfl ?_); (try (refine gate_guard zq58 ?_; dsimp only)); refine box_event ?hg (N := 2) ?hd (cs := #[.int .i64 a0_0, .slice A0_1 l0_1.length c0_1, .slice A0_2 l0_2.length c0_2]) (t := 25) ?hr ?_; (case hd => rfl); (case hg => rfl); (case hr => exact zq9); intro gb109 hg w8 hbox hb; have n_ := as4 (below_step zq2 hb) (hbox) ((zq29 : w.heap.size ≤ gb109)) ((zq29 : w.heap.size ≤ gb109)); clear HB hb hbox hg; obtain ⟨HB, BK109, GW109, GE109⟩ := n_) | ((with_reducible refine gate_dst (N := 3) rfl ?_); (try (refine gate_guard zq58 ?_; dsimp only)); refine box_event ?hg (N := 3) ?hd (cs := #[.string a1_0, .slice A1_1 l1_1.length c1_1]) (t := 56) ?hr ?_; (case hd => rfl); (case hg => rfl); (case hr => exact zq9); intro gb110 hg w9 hbox hb; have n_ := as7 (blk_below (zq0 BK109.out) hb) (below_step zq26 hb) (hbox) ((zq68 : w.heap.size ≤ gb110)) ((zq68 : w.heap.size ≤ gb110)) ((zq64 : gb109 ≠ gb110)) ((zq65 : gb110 ≠ gb109)); clear BK109 HB hb hbox hg; obtain ⟨BK109, HB, BK110, GW110, GE110, NB109_110, NB110_109⟩ := n_; have hnb10 := NB110_109.out; have hnc10 := NB109_110.out; obtain ⟨hcz11_0, hcz11_1, hfz11_0, hfz11_1⟩ := bcs2 BK110.out))
  repeat (go_quiet (first | ((with_reducible refine gate_dst (N := 2) rfl ?_); (try (refine gate_guard zq58 ?_; dsimp only)); refine box_event ?hg (N := 2) ?hd (cs := #[.int .i64 a0_0, .slice A0_1 l0_1.length c0_1, .slice A0_2 l0_2.length c0_2]) (t := 25) ?hr ?_; (case hd => rfl); (case hg => rfl); (case hr => exact zq9); intro gb109 hg w8 hbox hb; have n_ := as4 (below_step zq2 hb) (hbox) ((zq29 : w.heap.size ≤ gb109)) ((zq29 : w.heap.size ≤ gb109)); clear HB hb hbox hg; obtain ⟨HB, BK109, GW109, GE109⟩ := n_) | ((with_reducible refine gate_dst (N := 3) rfl ?_); (try (refine gate_guard zq58 ?_; dsimp only)); refine box_event ?hg (N := 3) ?hd (cs := #[.string a1_0, .slice A1_1 l1_1.length c1_1]) (t := 56) ?hr ?_; (case hd => rfl); (case hg => rfl); (case hr => exact zq9); intro gb110 hg w9 hbox hb; have n_ := as7 (blk_below (zq0 BK109.out) hb) (below_step zq26 hb) (hbox) ((zq68 : w.heap.size ≤ gb110)) ((zq68 : w.heap.size ≤ gb110)) ((zq64 : gb109 ≠ gb110)) ((zq65 : gb110 ≠ gb109)); clear BK109 HB hb hbox hg; obtain ⟨BK109, HB, BK110, GW110, GE110, NB109_110, NB110_109⟩ := n_; have hnb10 := NB110_109.out; have hnc10 := NB109_110.out; obtain ⟨hcz11_0, hcz11_1, hfz11_0, hfz11_1⟩ := bcs2 BK110.out)); try go_wp2_with (first | ((with_reducible refine gate_dst (N := 2) rfl ?_); (try (refine gate_guard zq58 ?_; dsimp only)); refine box_event ?hg (N := 2) ?hd (cs := #[.int .i64 a0_0, .slice A0_1 l0_1.length c0_1, .slice A0_2 l0_2.length c0_2]) (t := 25) ?hr ?_; (case hd => rfl); (case hg => rfl); (case hr => exact zq9); intro gb109 hg w8 hbox hb; have n_ := as4 (below_step zq2 hb) (hbox) ((zq29 : w.heap.size ≤ gb109)) ((zq29 : w.heap.size ≤ gb109)); clear HB hb hbox hg; obtain ⟨HB, BK109, GW109, GE109⟩ := n_) | ((with_reducible refine gate_dst (N := 3) rfl ?_); (try (refine gate_guard zq58 ?_; dsimp only)); refine box_event ?hg (N := 3) ?hd (cs := #[.string a1_0, .slice A1_1 l1_1.length c1_1]) (t := 56) ?hr ?_; (case hd => rfl); (case hg => rfl); (case hr => exact zq9); intro gb110 hg w9 hbox hb; have n_ := as7 (blk_below (zq0 BK109.out) hb) (below_step zq26 hb) (hbox) ((zq68 : w.heap.size ≤ gb110)) ((zq68 : w.heap.size ≤ gb110)) ((zq64 : gb109 ≠ gb110)) ((zq65 : gb110 ≠ gb109)); clear BK109 HB hb hbox hg; obtain ⟨BK109, HB, BK110, GW110, GE110, NB109_110, NB110_109⟩ := n_; have hnb10 := NB110_109.out; have hnc10 := NB109_110.out; obtain ⟨hcz11_0, hcz11_1, hfz11_0, hfz11_1⟩ := bcs2 BK110.out)))
  go_loopg [5] k (fun kq v5 w' => ∃ (x5_1 : Int), v5 = .int .i64 x5_1 ∧ Aside0 (culletref07_checkStand.l0 kq x5_1 a0_0 l0_1 l0_2 a1_0 l1_1 = some r) ∧ Aside0 (kq ≤ k) ∧ Aside0 (w'.heap[gb109]? = some (.cells #[.int .i64 a0_0, (.slice A0_1 l0_1.length c0_1), (.slice A0_2 l0_2.length c0_2)] 25 (0, 0))) ∧ Aside0 (w'.heap[gb110]? = some (.cells #[.string a1_0, (.slice A1_1 l1_1.length c1_1)] 56 (0, 0))) ∧ Aside0 (Below w.heap.size w w'))
  case atStart => exact ⟨(0), zq8, H', ⟨Nat.le_refl _⟩, ⟨(zq0 BK109.out)⟩, ⟨(zq0 BK110.out)⟩, ⟨zq38⟩⟩
  case round =>
   clear H'
   try clear c1
   try clear p2
   try clear c3
   try clear c3b0
   try clear c3b1
   try clear c5
   try clear c6
   try clear c10
   try clear hcz11_0 hcz11_1 hfz11_0 hfz11_1
   try clear hcz7_0 hcz7_1 hfz7_0 hfz7_1
   obtain ⟨x5_1, rfl, HA, HK1, BK109, BK110, HB⟩ := hrel
   cases gk with
   | zero => exact absurd HA.out (by simp [culletref07_checkStand.l0])
   | succ k1 =>
    have H := HA.out
    clear HA
    simp only [culletref07_checkStand.l0] at H
    by_cases c12 : x5_1 < (l1_1.length : Int)
    ·rw [if_pos c12] at H
     have c12b0 : decide (x5_1 < (l1_1.length : Int)) = true := decide_eq_true c12
     clear c12
     by_cases c13 : 0 ≤ x5_1
     ·rw [if_pos c13] at H
      have c13b0 : decide (0 ≤ x5_1) = true := decide_eq_true c13
      clear c13
      have HC14 := Aside0.mk H
      clear H
      have hnb15 := NB110_109.out
      have hnc15 := NB109_110.out
      obtain ⟨hcz16_0, hcz16_1, hfz16_0, hfz16_1⟩ := bcs2 BK110.out
      have p111 : 0 ≤ (x5_1 : Int) := of_decide_eq_true zq6
      have q111 : x5_1 < (l1_1.length : Int) := of_decide_eq_true zq6
      obtain ⟨ad111, e111, hx111_0, hx111_1, hx111_2⟩ := at_T68 HR1_1.out x5_1 p111 q111
      cases e111
      replace hx111_0 := hcx HB.out hx111_0
      replace hx111_1 := hcx HB.out hx111_1
      replace hx111_2 := hcx HB.out hx111_2
      replace p111 := eq_true p111
      replace q111 := eq_true q111
      go_upto_region 7 with (first | ((with_reducible refine gate_dst (N := 6) rfl ?_); (try (refine gate_guard zq58 ?_; dsimp only)); refine box_event ?hg (N := 6) ?hd (cs := #[.int .i64 0, .int .i64 0, .int .i64 0]) (t := 68) ?hr ?_; (case hd => rfl); (case hg => rfl); (case hr => exact zq9); intro gb112 hg w17 hbox hb; have n_ := as10 (blk_below (zq0 BK109.out) hb) (blk_below (zq0 BK110.out) hb) (below_step zq38 hb) (hbox) ((zq91 : w.heap.size ≤ gb112)) ((zq91 : w.heap.size ≤ gb112)) ((zq64 : gb109 ≠ gb112)) ((zq65 : gb112 ≠ gb109)) ((by rw [hg]; exact Nat.ne_of_lt (blk_lt (zq0 BK110.out)) : gb110 ≠ gb112)) ((by rw [hg]; exact Nat.ne_of_gt (blk_lt (zq0 BK110.out)) : gb112 ≠ gb110)); clear BK109 BK110 HB hb hbox hg; obtain ⟨BK109, BK110, HB, BK112, GW112, GE112, NB109_112, NB112_109, NB110_112, NB112_110⟩ := n_; have hnb18 := NB112_109.out; have hnc18 := NB109_112.out; have hnb19 := NB112_110.out; have hnc19 := NB110_112.out; obtain ⟨hcz20_0, hcz20_1, hcz20_2, hfz20_0, hfz20_1, hfz20_2⟩ := bcs3 BK112.out))
      repeat (go_quiet (first | ((with_reducible refine gate_dst (N := 6) rfl ?_); (try (refine gate_guard zq58 ?_; dsimp only)); refine box_event ?hg (N := 6) ?hd (cs := #[.int .i64 0, .int .i64 0, .int .i64 0]) (t := 68) ?hr ?_; (case hd => rfl); (case hg => rfl); (case hr => exact zq9); intro gb112 hg w17 hbox hb; have n_ := as10 (blk_below (zq0 BK109.out) hb) (blk_below (zq0 BK110.out) hb) (below_step zq38 hb) (hbox) ((zq91 : w.heap.size ≤ gb112)) ((zq91 : w.heap.size ≤ gb112)) ((zq64 : gb109 ≠ gb112)) ((zq65 : gb112 ≠ gb109)) ((by rw [hg]; exact Nat.ne_of_lt (blk_lt (zq0 BK110.out)) : gb110 ≠ gb112)) ((by rw [hg]; exact Nat.ne_of_gt (blk_lt (zq0 BK110.out)) : gb112 ≠ gb110)); clear BK109 BK110 HB hb hbox hg; obtain ⟨BK109, BK110, HB, BK112, GW112, GE112, NB109_112, NB112_109, NB110_112, NB112_110⟩ := n_; have hnb18 := NB112_109.out; have hnc18 := NB109_112.out; have hnb19 := NB112_110.out; have hnc19 := NB110_112.out; obtain ⟨hcz20_0, hcz20_1, hcz20_2, hfz20_0, hfz20_1, hfz20_2⟩ := bcs3 BK112.out)); go_upto_region 7 with (first | ((with_reducible refine gate_dst (N := 6) rfl ?_); (try (refine gate_guard zq58 ?_; dsimp only)); refine box_event ?hg (N := 6) ?hd (cs := #[.int .i64 0, .int .i64 0, .int .i64 0]) (t := 68) ?hr ?_; (case hd => rfl); (case hg => rfl); (case hr => exact zq9); intro gb112 hg w17 hbox hb; have n_ := as10 (blk_below (zq0 BK109.out) hb) (blk_below (zq0 BK110.out) hb) (below_step zq38 hb) (hbox) ((zq91 : w.heap.size ≤ gb112)) ((zq91 : w.heap.size ≤ gb112)) ((zq64 : gb109 ≠ gb112)) ((zq65 : gb112 ≠ gb109)) ((by rw [hg]; exact Nat.ne_of_lt (blk_lt (zq0 BK110.out)) : gb110 ≠ gb112)) ((by rw [hg]; exact Nat.ne_of_gt (blk_lt (zq0 BK110.out)) : gb112 ≠ gb110)); clear BK109 BK110 HB hb hbox hg; obtain ⟨BK109, BK110, HB, BK112, GW112, GE112, NB109_112, NB112_109, NB110_112, NB112_110⟩ := n_; have hnb18 := NB112_109.out; have hnc18 := NB109_112.out; have hnb19 := NB112_110.out; have hnc19 := NB110_112.out; obtain ⟨hcz20_0, hcz20_1, hcz20_2, hfz20_0, hfz20_1, hfz20_2⟩ := bcs3 BK112.out)))
      (try simp only [Act.put, List.setIfInBounds_toArray, List.set_cons_zero, List.set_cons_succ])
      go_cut [34] (fun v34 wc => ∃ (kq : Nat) (x34_13 : Bool), v34 = .bool x34_13 ∧ Aside0 (culletref07_checkStand.j1 kq x5_1 x34_13 a0_0 l0_1 l0_2 a1_0 l1_1 ((rd_T68 l1_1 x5_1).f0) ((rd_T68 l1_1 x5_1).f1) ((rd_T68 l1_1 x5_1).f2) = some r) ∧ Aside0 (kq ≤ k1) ∧ Aside0 (wc.heap[gb109]? = some (.cells #[.int .i64 a0_0, (.slice A0_1 l0_1.length c0_1), (.slice A0_2 l0_2.length c0_2)] 25 (0, 0))) ∧ Aside0 (wc.heap[gb110]? = some (.cells #[.string a1_0, (.slice (some ad111) l1_1.length c1_1)] 56 (0, 0))) ∧ Aside0 (wc.heap[gb112]? = some (.cells #[.int .i64 ((rd_T68 l1_1 x5_1).f0), .int .i64 ((rd_T68 l1_1 x5_1).f1), .int .i64 ((rd_T68 l1_1 x5_1).f2)] 68 (0, 0))) ∧ Aside0 (Below w.heap.size w wc))
      case first =>
       have H := HC14.out
       clear HC14
       by_cases c21 : ((rd_T68 l1_1 x5_1).f0) < 0
       ·rw [if_pos c21] at H
        have c21b0 : decide (((rd_T68 l1_1 x5_1).f0) < 0) = true := decide_eq_true c21
        clear c21
        (first | rw [c21b0] | (simp only [i64_w, i32_w]; rw [c21b0]) | skip)
        have H' := Aside0.mk H
        clear H
        have hnb22 := NB112_109.out
        have hnc22 := NB109_112.out
        have hnb23 := NB112_110.out
        have hnc23 := NB110_112.out
        obtain ⟨hcz24_0, hcz24_1, hcz24_2, hfz24_0, hfz24_1, hfz24_2⟩ := bcs3 BK112.out
        go_wp2
        repeat (go_quiet (fail); try go_wp2)
        go_meet
        case rel => exact ⟨_, (true), zq8, H', ⟨zq52⟩, ⟨(bch1 NB109_112.out BK109.out)⟩, ⟨(bch1 NB110_112.out BK110.out)⟩, ⟨(bch0p BK112.out)⟩, ⟨zq37⟩⟩
       ·rw [if_neg c21] at H
        have c21b0 : decide (((rd_T68 l1_1 x5_1).f0) < 0) = false := decide_eq_false c21
        clear c21
        (first | rw [c21b0] | (simp only [i64_w, i32_w]; rw [c21b0]) | skip)
        have H' := Aside0.mk H
        clear H
        have hnb25 := NB112_109.out
        have hnc25 := NB109_112.out
        have hnb26 := NB112_110.out
        have hnc26 := NB110_112.out
        obtain ⟨hcz27_0, hcz27_1, hcz27_2, hfz27_0, hfz27_1, hfz27_2⟩ := bcs3 BK112.out
        have hnb28 := NB109_110.out
        have hnc28 := NB110_109.out
        obtain ⟨hcz29_0, hcz29_1, hcz29_2, hfz29_0, hfz29_1, hfz29_2⟩ := bcs3 BK109.out
        go_wp2
        repeat (go_quiet (fail); try go_wp2)
        go_meet
        case rel => exact ⟨_, (decide (((rd_T68 l1_1 x5_1).f0) ≥ (l0_1.length : Int))), zq8, H', ⟨zq52⟩, ⟨(bch1 NB109_112.out BK109.out)⟩, ⟨(bch1 NB110_112.out BK110.out)⟩, ⟨(bch0p BK112.out)⟩, ⟨zq37⟩⟩
      case rest =>
       clear HC14
       try clear c1
       try clear p1
       try clear q1
       try clear hx1
       try clear c2
       try clear p2 p2
       try clear c3
       try clear c3b0
       try clear c3b1
       try clear c5
       try clear c6
       try clear c10
       try clear p11
       try clear q11
       try clear hx11
       try clear c12
       try clear c12b0
       try clear c13
       try clear c13b0
       try clear c15
       try clear c18
       try clear c19
       try clear c21
       try clear c21b0
       try clear c22
       try clear c23
       try clear c25
       try clear c26
       try clear c28
       try clear hcz11_0 hcz11_1 hfz11_0 hfz11_1
       try clear hcz16_0 hcz16_1 hfz16_0 hfz16_1
       try clear hcz20_0 hcz20_1 hcz20_2 hfz20_0 hfz20_1 hfz20_2
       try clear hcz24_0 hcz24_1 hcz24_2 hfz24_0 hfz24_1 hfz24_2
       try clear hcz27_0 hcz27_1 hcz27_2 hfz27_0 hfz27_1 hfz27_2
       try clear hcz29_0 hcz29_1 hcz29_2 hfz29_0 hfz29_1 hfz29_2
       try clear hcz7_0 hcz7_1 hfz7_0 hfz7_1
       try clear hx111_0
       try clear hx111_1
       try clear hx111_2
       try clear p111
       try clear q111
       obtain ⟨kq, x34_13, rfl, HA, HJ13, BK109, BK110, BK112, HB⟩ := hcut
       cases kq with
       | zero => exact absurd HA.out (by simp [culletref07_checkStand.j1])
       | succ kj13 =>
        have H := HA.out
        clear HA
        simp only [culletref07_checkStand.j1] at H
        by_cases c30 : x34_13 = true
        ·subst c30
         have H1 : (some 7) = some r := by rw [if_pos rfl] at H; exact H
         clear H
         have H := H1
         clear H1
         obtain rfl := Option.some.inj H
         go_wp2
         repeat (go_quiet (fail); try go_wp2)
         go_ret
         exact ⟨zq7, zq37⟩
        ·replace c30 := Bool.eq_false_iff.mpr c30
         subst c30
         have H1 : (culletref07_checkStand.l1 kj13 x5_1 0 a0_0 l0_1 l0_2 a1_0 l1_1 ((rd_T68 l1_1 x5_1).f0) ((rd_T68 l1_1 x5_1).f1) ((rd_T68 l1_1 x5_1).f2)) = some r := by rw [if_neg (show ¬ (false = true) by decide)] at H; exact H
         clear H
         have H := H1
         clear H1
         have H' := Aside0.mk H
         clear H
         go_wp2
         repeat (go_quiet (fail); try go_wp2)
         go_loopg [7] kj13 (fun kq v7 w' => ∃ (x7_3 : Int), v7 = .int .i64 x7_3 ∧ Aside0 (culletref07_checkStand.l1 kq x5_1 x7_3 a0_0 l0_1 l0_2 a1_0 l1_1 ((rd_T68 l1_1 x5_1).f0) ((rd_T68 l1_1 x5_1).f1) ((rd_T68 l1_1 x5_1).f2) = some r) ∧ Aside0 (kq ≤ kj13) ∧ Aside0 (w'.heap[gb109]? = some (.cells #[.int .i64 a0_0, (.slice A0_1 l0_1.length c0_1), (.slice A0_2 l0_2.length c0_2)] 25 (0, 0))) ∧ Aside0 (w'.heap[gb110]? = some (.cells #[.string a1_0, (.slice (some ad111) l1_1.length c1_1)] 56 (0, 0))) ∧ Aside0 (w'.heap[gb112]? = some (.cells #[.int .i64 ((rd_T68 l1_1 x5_1).f0), .int .i64 ((rd_T68 l1_1 x5_1).f1), .int .i64 ((rd_T68 l1_1 x5_1).f2)] 68 (0, 0))) ∧ Aside0 (Below w.heap.size w w'))
         case atStart => exact ⟨(0), zq8, H', ⟨Nat.le_refl _⟩, ⟨(zq0 BK109.out)⟩, ⟨(zq0 BK110.out)⟩, ⟨(zq0 BK112.out)⟩, ⟨zq37⟩⟩
         case round =>
          clear H'
          try clear c1
          try clear p1 p1
          try clear q1 q1
          try clear hx1
          try clear c2
          try clear p2 p2
          try clear c3
          try clear c3b0
          try clear c3b1
          try clear c5
          try clear c6
          try clear c10
          try clear p11 p11
          try clear q11 q11
          try clear hx11
          try clear c12
          try clear c12b0
          try clear c13
          try clear c13b0
          try clear c15
          try clear c18
          try clear c19
          try clear c21
          try clear c21b0
          try clear c22
          try clear c23
          try clear c25
          try clear c26
          try clear c28
          try clear c30
          try clear hcz11_0 hcz11_1 hfz11_0 hfz11_1
          try clear hcz16_0 hcz16_1 hfz16_0 hfz16_1
          try clear hcz20_0 hcz20_1 hcz20_2 hfz20_0 hfz20_1 hfz20_2
          try clear hcz24_0 hcz24_1 hcz24_2 hfz24_0 hfz24_1 hfz24_2
          try clear hcz27_0 hcz27_1 hcz27_2 hfz27_0 hfz27_1 hfz27_2
          try clear hcz29_0 hcz29_1 hcz29_2 hfz29_0 hfz29_1 hfz29_2
          try clear hcz7_0 hcz7_1 hfz7_0 hfz7_1
          try clear hx111_0
          try clear hx111_1
          try clear hx111_2
          try clear p111
          try clear q111
          obtain ⟨x7_3, rfl, HA, HK3, BK109, BK110, BK112, HB⟩ := hrel
          cases gk with
          | zero => exact absurd HA.out (by simp [culletref07_checkStand.l1])
          | succ k3 =>
           have H := HA.out
           clear HA
           simp only [culletref07_checkStand.l1] at H
           by_cases c31 : x7_3 < x5_1
           ·rw [if_pos c31] at H
            have c31b0 : decide (x7_3 < x5_1) = true := decide_eq_true c31
            clear c31
            by_cases c32 : 0 ≤ x7_3
            ·rw [if_pos c32] at H
             have c32b0 : decide (0 ≤ x7_3) = true := decide_eq_true c32
             clear c32
             by_cases c33 : x7_3 < (l1_1.length : Int)
             ·rw [if_pos c33] at H
              have c33b0 : decide (x7_3 < (l1_1.length : Int)) = true := decide_eq_true c33
              clear c33
              by_cases c34 : ((rd_T68 l1_1 x7_3).f0) = ((rd_T68 l1_1 x5_1).f0)
              ·rw [if_pos c34] at H
               have c34b0 : (((rd_T68 l1_1 x7_3).f0) == ((rd_T68 l1_1 x5_1).f0)) = true := beq_iff_eq.mpr c34
               have c34b1 : (((rd_T68 l1_1 x7_3).f0) != ((rd_T68 l1_1 x5_1).f0)) = false := bne_eq_false_iff_eq.mpr c34
               clear c34
               obtain rfl := Option.some.inj H
               have hnb35 := NB110_109.out
               have hnc35 := NB109_110.out
               have hnb36 := NB110_112.out
               have hnc36 := NB112_110.out
               obtain ⟨hcz37_0, hcz37_1, hfz37_0, hfz37_1⟩ := bcs2 BK110.out
               have p113 : 0 ≤ (x7_3 : Int) := of_decide_eq_true zq6
               have q113 : x7_3 < (l1_1.length : Int) := of_decide_eq_true zq6
               obtain ⟨ad113, e113, hx113_0, hx113_1, hx113_2⟩ := at_T68 HR1_1.out x7_3 p113 q113
               obtain rfl : ad111 = ad113 := (by injection e113)
               replace hx113_0 := hcx HB.out hx113_0
               replace hx113_1 := hcx HB.out hx113_1
               replace hx113_2 := hcx HB.out hx113_2
               replace p113 := eq_true p113
               replace q113 := eq_true q113
               have hnb38 := NB112_109.out
               have hnc38 := NB109_112.out
               obtain ⟨hcz39_0, hcz39_1, hcz39_2, hfz39_0, hfz39_1, hfz39_2⟩ := bcs3 BK112.out
               go_wp2
               repeat (go_quiet (fail); try go_wp2)
               go_ret
               exact ⟨zq7, zq37⟩
              ·rw [if_neg c34] at H
               have c34b0 : (((rd_T68 l1_1 x7_3).f0) == ((rd_T68 l1_1 x5_1).f0)) = false := beq_eq_false_iff_ne.mpr c34
               have c34b1 : (((rd_T68 l1_1 x7_3).f0) != ((rd_T68 l1_1 x5_1).f0)) = true := bne_iff_ne.mpr c34
               have H' := Aside0.mk H
               clear H
               have hnb40 := NB110_109.out
               have hnc40 := NB109_110.out
               have hnb41 := NB110_112.out
               have hnc41 := NB112_110.out
               obtain ⟨hcz42_0, hcz42_1, hfz42_0, hfz42_1⟩ := bcs2 BK110.out
               have p113 : 0 ≤ (x7_3 : Int) := of_decide_eq_true zq6
               have q113 : x7_3 < (l1_1.length : Int) := of_decide_eq_true zq6
               obtain ⟨ad113, e113, hx113_0, hx113_1, hx113_2⟩ := at_T68 HR1_1.out x7_3 p113 q113
               obtain rfl : ad111 = ad113 := (by injection e113)
               replace hx113_0 := hcx HB.out hx113_0
               replace hx113_1 := hcx HB.out hx113_1
               replace hx113_2 := hcx HB.out hx113_2
               replace p113 := eq_true p113
               replace q113 := eq_true q113
               have hnb43 := NB112_109.out
               have hnc43 := NB109_112.out
               obtain ⟨hcz44_0, hcz44_1, hcz44_2, hfz44_0, hfz44_1, hfz44_2⟩ := bcs3 BK112.out
               go_wp2
               repeat (go_quiet (fail); try go_wp2)
               go_roundg k3
               case measure => have := HK1.out; have := HJ13.out; have := HK3.out; omega
               case rel => exact ⟨(wrap64 (x7_3 + 1)), zq8, H', ⟨by have := HK1.out; have := HJ13.out; have := HK3.out; omega⟩, ⟨(zq0 BK109.out)⟩, ⟨(zq0 BK110.out)⟩, ⟨(zq0 BK112.out)⟩, ⟨zq37⟩⟩
             ·rw [if_neg c33] at H
              exact absurd H zq81
            ·rw [if_neg c32] at H
             exact absurd H zq81
           ·rw [if_neg c31] at H
            have c31b0 : decide (x7_3 < x5_1) = false := decide_eq_false c31
            clear c31
            by_cases c45 : ((rd_T68 l1_1 x5_1).f2) < 1
            ·rw [if_pos c45] at H
             have c45b0 : decide (((rd_T68 l1_1 x5_1).f2) < 1) = true := decide_eq_true c45
             clear c45
             obtain rfl := Option.some.inj H
             have hnb46 := NB112_109.out
             have hnc46 := NB109_112.out
             have hnb47 := NB112_110.out
             have hnc47 := NB110_112.out
             obtain ⟨hcz48_0, hcz48_1, hcz48_2, hfz48_0, hfz48_1, hfz48_2⟩ := bcs3 BK112.out
             go_wp2
             repeat (go_quiet (fail); try go_wp2)
             go_ret
             exact ⟨zq7, zq37⟩
            ·rw [if_neg c45] at H
             have c45b0 : decide (((rd_T68 l1_1 x5_1).f2) < 1) = false := decide_eq_false c45
             clear c45
             by_cases c49 : ((rd_T68 l1_1 x5_1).f2) > 1000
             ·rw [if_pos c49] at H
              have c49b0 : decide (1000 < ((rd_T68 l1_1 x5_1).f2)) = true := decide_eq_true c49
              clear c49
              obtain rfl := Option.some.inj H
              have hnb50 := NB112_109.out
              have hnc50 := NB109_112.out
              have hnb51 := NB112_110.out
              have hnc51 := NB110_112.out
              obtain ⟨hcz52_0, hcz52_1, hcz52_2, hfz52_0, hfz52_1, hfz52_2⟩ := bcs3 BK112.out
              go_wp2
              repeat (go_quiet (fail); try go_wp2)
              go_ret
              exact ⟨zq7, zq37⟩
             ·rw [if_neg c49] at H
              have c49b0 : decide (1000 < ((rd_T68 l1_1 x5_1).f2)) = false := decide_eq_false c49
              clear c49
              by_cases c53 : ((rd_T68 l1_1 x5_1).f1) < 0
              ·rw [if_pos c53] at H
               have c53b0 : decide (((rd_T68 l1_1 x5_1).f1) < 0) = true := decide_eq_true c53
               clear c53
               obtain rfl := Option.some.inj H
               have hnb54 := NB112_109.out
               have hnc54 := NB109_112.out
               have hnb55 := NB112_110.out
               have hnc55 := NB110_112.out
               obtain ⟨hcz56_0, hcz56_1, hcz56_2, hfz56_0, hfz56_1, hfz56_2⟩ := bcs3 BK112.out
               go_wp2
               repeat (go_quiet (fail); try go_wp2)
               go_ret
               exact ⟨zq7, zq37⟩
              ·rw [if_neg c53] at H
               have c53b0 : decide (((rd_T68 l1_1 x5_1).f1) < 0) = false := decide_eq_false c53
               clear c53
               by_cases c57 : ((rd_T68 l1_1 x5_1).f1) > ((rd_T68 l1_1 x5_1).f2)
               ·rw [if_pos c57] at H
                have c57b0 : decide (((rd_T68 l1_1 x5_1).f2) < ((rd_T68 l1_1 x5_1).f1)) = true := decide_eq_true c57
                clear c57
                obtain rfl := Option.some.inj H
                have hnb58 := NB112_109.out
                have hnc58 := NB109_112.out
                have hnb59 := NB112_110.out
                have hnc59 := NB110_112.out
                obtain ⟨hcz60_0, hcz60_1, hcz60_2, hfz60_0, hfz60_1, hfz60_2⟩ := bcs3 BK112.out
                go_wp2
                repeat (go_quiet (fail); try go_wp2)
                go_ret
                exact ⟨zq7, zq37⟩
               ·rw [if_neg c57] at H
                have c57b0 : decide (((rd_T68 l1_1 x5_1).f2) < ((rd_T68 l1_1 x5_1).f1)) = false := decide_eq_false c57
                clear c57
                have H' := Aside0.mk H
                clear H
                have hnb61 := NB112_109.out
                have hnc61 := NB109_112.out
                have hnb62 := NB112_110.out
                have hnc62 := NB110_112.out
                obtain ⟨hcz63_0, hcz63_1, hcz63_2, hfz63_0, hfz63_1, hfz63_2⟩ := bcs3 BK112.out
                go_wp2
                repeat (go_quiet (fail); try go_wp2)
                go_roundg k3
                case measure => have := HK1.out; have := HJ13.out; have := HK3.out; omega
                case rel => exact ⟨(wrap64 (x5_1 + 1)), zq8, H', ⟨by have := HK1.out; have := HJ13.out; have := HK3.out; omega⟩, ⟨(zq0 BK109.out)⟩, ⟨(zq0 BK110.out)⟩, ⟨zq37⟩⟩
     ·rw [if_neg c13] at H
      exact absurd H zq81
    ·rw [if_neg c12] at H
     have c12b0 : decide (x5_1 < (l1_1.length : Int)) = false := decide_eq_false c12
     clear c12
     obtain rfl := Option.some.inj H
     have hnb64 := NB110_109.out
     have hnc64 := NB109_110.out
     obtain ⟨hcz65_0, hcz65_1, hfz65_0, hfz65_1⟩ := bcs2 BK110.out
     go_wp2
     repeat (go_quiet (fail); try go_wp2)
     go_ret
     exact ⟨zq7, zq38⟩
end Go.Proofs.Ytbpebehbfpgjbaa.P
end
