/-
A region that draws its order and writes: the walk in the order of the text serves every order, if each operation that writes knows its place among all that look at memory.
-/
import Derived.Deep.Quiet
import Derived.StillTail
namespace Go.Proofs.Ytnckabgaichkkaa.Eng
set_option linter.unusedVariables false
set_option linter.unusedSimpArgs false
open Go

inductive Cls where
  | pure | quiet | load | new | eff
  deriving DecidableEq
def cls : Op → Cls
  | .store .. => .eff
  | .alloc .. => .new
  | .box .. => .new
  | .buildSlice .. => .new
  | .makeSlice .. => .new
  | .makeMap .. => .eff
  | .mapUpdate .. => .eff
  | .range .. => .eff
  | .next .. => .eff
  | .load .. => .load
  | .lookup .. => .quiet
  | .call ⟨.builtin .append, _, _⟩ => .eff
  | .call ⟨.builtin .copy, _, _⟩ => .eff
  | .call ⟨.builtin .delete, _, _⟩ => .eff
  | .call ⟨.builtin .clear, _, _⟩ => .eff
  | .call ⟨.builtin .len, _, _⟩ => .pure
  | .call ⟨.builtin .cap, _, _⟩ => .pure
  | .call ⟨.builtin .min, _, _⟩ => .pure
  | .call ⟨.builtin .max, _, _⟩ => .pure
  | .call .. => .quiet
  | _ => .pure

def effAt (P : Program) (o : Oper) (a : Act) (C' : World → Prop) (w : World) (v : Value) : Prop :=
  match (execOp a.eval o).run P w with
  | .ok (.value u) w' => u = v ∧ C' w'
  | .ok .skip w' => v = undef ∧ C' w'
  | .ok (.enter f args) w' => Calls P f args w' (fun e w'' => e = .returned v ∧ C' w'')
  | _ => False

/-- The world has at most new blocks. -/
structure Ext (w w' : World) : Prop where
  os : w'.os = w.os
  tape : w'.tape = w.tape
  output : w'.output = w.output
  size : w.heap.size ≤ w'.heap.size
  block : ∀ k, k < w.heap.size → w'.heap[k]? = w.heap[k]?
  drawn : w.drawn ≤ w'.drawn
theorem Ext.refl (w : World) : Ext w w := ⟨rfl, rfl, rfl, Nat.le_refl _, fun _ _ => rfl, Nat.le_refl _⟩
theorem Ext.trans {a b c : World} (h : Ext a b) (k : Ext b c) : Ext a c :=
  ⟨k.os.trans h.os, k.tape.trans h.tape, k.output.trans h.output, Nat.le_trans h.size k.size, fun i hi => (k.block i (Nat.lt_of_lt_of_le hi h.size)).trans (h.block i hi), Nat.le_trans h.drawn k.drawn⟩
def MW (P : Program) (ops : Array Oper) (F : Act → World → Prop) : List Oper → (World → Prop) → Act → Prop
  | [], C, a => ∀ w, C w → F a w
  | o :: rest, C, a =>
    if Region.wanted o (yielded ops a.tmps) then
      match cls o.op with
      | .pure => ∃ v, (∀ w, (execOp a.eval o).run P w = .ok (.value v) w) ∧ MW P ops F rest C (a.put o.dst v)
      | .quiet => ∃ v, (∀ w, C w → o.quietAt P a C w v) ∧ MW P ops F rest C (a.put o.dst v)
      | .load => ∃ v, (∀ w0 w, C w0 → Ext w0 w → (execOp a.eval o).run P w = .ok (.value v) w) ∧ MW P ops F rest C (a.put o.dst v)
      | .new => ∃ v C', ((∀ w, C w → effAt P o a C' w v) ∧ ∀ w', C' w' → ∃ w, C w ∧ Ext w w') ∧ MW P ops F rest C' (a.put o.dst v)
      | .eff => ∃ v C', (∀ w, C w → effAt P o a C' w v) ∧ MW P ops F rest C' (a.put o.dst v)
    else MW P ops F rest C (a.put o.dst undef)

def dir (ops : Array Oper) (j i : Nat) : Bool := match ops[j]? with
  | some o => o.after.any fun e => Region.binds .any e && e.on == i
  | none => false
def mask1 (acc : Array Nat) : List Edge → Nat
  | [] => 0
  | e :: r => if Region.binds .any e then mask1 acc r ||| (2 ^ e.on ||| acc.getD e.on 0) else mask1 acc r
def masks : List Oper → Array Nat → Array Nat
  | [], acc => acc
  | o :: r, acc => masks r (acc.push (mask1 acc o.after.toList))
def bef (ops : Array Oper) (j i : Nat) : Bool := ((masks ops.toList #[]).getD j 0).testBit i
theorem mask1_spec (acc : Array Nat) (es : List Edge) (i : Nat) (h : (mask1 acc es).testBit i = true) : ∃ e ∈ es, Region.binds .any e = true ∧ (e.on = i ∨ (acc.getD e.on 0).testBit i = true) := by
  induction es with
  | nil => simp [mask1] at h
  | cons e r ih =>
    unfold mask1 at h
    by_cases hb : Region.binds .any e = true
    · rw [if_pos hb] at h
      simp only [Nat.testBit_or, Bool.or_eq_true] at h
      rcases h with h | h | h
      · obtain ⟨e', he', h'⟩ := ih h
        exact ⟨e', List.mem_cons_of_mem _ he', h'⟩
      · rw [Nat.testBit_two_pow] at h
        exact ⟨e, List.mem_cons_self, hb, .inl (by simpa using h)⟩
      · exact ⟨e, List.mem_cons_self, hb, .inr h⟩
    · rw [if_neg hb] at h
      obtain ⟨e', he', h'⟩ := ih h
      exact ⟨e', List.mem_cons_of_mem _ he', h'⟩
theorem masks_keep (l : List Oper) : ∀ (acc : Array Nat) (j : Nat), j < acc.size → (masks l acc).getD j 0 = acc.getD j 0 := by
  induction l with
  | nil => intro acc j _; rfl
  | cons o r ih =>
    intro acc j hj
    unfold masks
    rw [ih _ j (by simp; omega)]
    simp [Array.getElem?_push, Nat.ne_of_lt hj]
theorem masks_at (l : List Oper) : ∀ (acc : Array Nat) (j : Nat) (o : Oper), l[j]? = some o → ∃ acc', acc'.size = acc.size + j ∧ (∀ m, m < acc'.size → (masks l acc).getD m 0 = acc'.getD m 0) ∧ (masks l acc).getD (acc.size + j) 0 = mask1 acc' o.after.toList := by
  induction l with
  | nil => intro acc j o h; simp at h
  | cons o r ih =>
    intro acc j o' h
    cases j with
    | zero =>
      simp at h
      subst h
      refine ⟨acc, rfl, fun m hm => masks_keep _ _ m hm, ?_⟩
      unfold masks
      rw [masks_keep _ _ _ (by simp)]
      simp
    | succ j =>
      obtain ⟨acc', h1, h2, h3⟩ := ih (acc.push (mask1 acc o.after.toList)) j o' (by simpa using h)
      simp only [Array.size_push] at h1 h3
      refine ⟨acc', by omega, h2, ?_⟩
      unfold masks
      rw [show acc.size + (j + 1) = acc.size + 1 + j by omega]
      exact h3
theorem bef_spec {ops : Array Oper} {j i : Nat} (h : bef ops j i = true) : dir ops j i = true ∨ ∃ m, m < j ∧ dir ops j m = true ∧ bef ops m i = true := by
  unfold bef at h
  cases ho : ops.toList[j]? with
  | none =>
    have hlen : ∀ (l : List Oper) (acc : Array Nat), (masks l acc).size = acc.size + l.length := by
      intro l
      induction l with
      | nil => intro acc; simp [masks]
      | cons o r ih => intro acc; unfold masks; rw [ih]; simp; omega
    have hj : ops.toList.length ≤ j := by simpa using ho
    have : (masks ops.toList #[]).getD j 0 = 0 := by
      simp [Array.getElem?_eq_none (show (masks ops.toList #[]).size ≤ j by rw [hlen]; simpa using hj)]
    rw [this] at h
    simp at h
  | some o =>
    obtain ⟨acc', h1, h2, h3⟩ := masks_at ops.toList #[] j o ho
    simp only [List.size_toArray, List.length_nil, Nat.zero_add] at h1 h3
    rw [h3] at h
    obtain ⟨e, he, hb, hc⟩ := mask1_spec _ _ _ h
    have hd : ∀ x, e.on = x → dir ops j x = true := fun x hx => by
      unfold dir
      rw [show ops[j]? = some o by simpa using ho]
      exact Array.any_eq_true'.2 ⟨e, by simpa using he, by simp [hb, hx]⟩
    rcases hc with hc | hc
    · exact .inl (hd _ hc)
    · have hm : e.on < acc'.size := by
        rcases Nat.lt_or_ge e.on acc'.size with hlt | hge
        · exact hlt
        · simp [Array.getElem?_eq_none hge] at hc
      exact .inr ⟨e.on, by omega, hd _ rfl, by unfold bef; rw [h2 _ hm]; exact hc⟩
theorem bef_listed {ops : Array Oper} {listed : Array Bool} (hc : ∀ j, listed.getD j false = true → ∀ i, dir ops j i = true → listed.getD i false = true) {i : Nat} :
    ∀ (n j : Nat), j < n → (∀ m, dir ops j m = true → listed.getD m false = true) → bef ops j i = true → listed.getD i false = true := by
  intro n
  induction n with
  | zero => intro j h; omega
  | succ n ih =>
    intro j hj hd hb
    rcases bef_spec hb with h | ⟨m, hm, h, hb'⟩
    · exact hd i h
    · exact ih m (by omega) (hc m (hd m h)) hb'
def namesOf (ops : Array Oper) (o : Oper) : List Tmp := o.looksAt ops
def ordB (ops : Array Oper) (i j : Nat) : Bool := if i < j then bef ops j i else bef ops i j
def isEff (ops : Array Oper) (i : Nat) : Bool := match ops[i]? with
  | some o => decide (cls o.op = .eff) || decide (cls o.op = .new)
  | none => false
def isNew (ops : Array Oper) (i : Nat) : Bool := match ops[i]? with
  | some o => decide (cls o.op = .new)
  | none => false
def isLoad (ops : Array Oper) (i : Nat) : Bool := match ops[i]? with
  | some o => decide (cls o.op = .load)
  | none => false
def isPure (ops : Array Oper) (i : Nat) : Bool := match ops[i]? with
  | some o => decide (cls o.op = .pure)
  | none => false
def dstOf (ops : Array Oper) (i : Nat) : Option Tmp := (ops[i]?).bind (·.dst)
/-- Each writer of what op j looks at stands before it or behind it by an edge; no slot has two writers; what writes memory stands before or behind all that looks at it. -/
def mixB (ops : Array Oper) : Bool :=
  Region.noSelect ops &&
  ((List.range ops.size).all fun j => (List.range ops.size).all fun i => i == j || (
    (match dstOf ops i with
      | some t => !((match ops[j]? with | some o => (namesOf ops o).contains t | none => false)) || ordB ops i j
      | none => true) &&
    (match dstOf ops i with
      | some t => dstOf ops j != some t
      | none => true) &&
    (!(isEff ops i) || isPure ops j || ordB ops i j || (isNew ops i && isLoad ops j && decide (j < i))))) &&
  (List.range ops.size).all fun j => match ops[j]? with
    | some o => o.after.all fun e => !(Region.binds .any e) || decide (e.on < j)
    | none => true

theorem mixB_spec {ops : Array Oper} (h : mixB ops = true) : Region.noSelect ops = true ∧
    (∀ i j o t, i < ops.size → ops[j]? = some o → i ≠ j → dstOf ops i = some t → t ∈ namesOf ops o → ordB ops i j = true) ∧
    (∀ i j t, i < ops.size → j < ops.size → i ≠ j → dstOf ops i = some t → dstOf ops j ≠ some t) ∧
    (∀ i j, i < ops.size → j < ops.size → i ≠ j → isEff ops i = true → isPure ops j = false → ordB ops i j = true ∨ (isNew ops i = true ∧ isLoad ops j = true ∧ j < i)) := by
  simp only [mixB, Bool.and_eq_true, List.all_eq_true, List.mem_range, Bool.or_eq_true, beq_iff_eq] at h
  obtain ⟨⟨h1, h2⟩, _⟩ := h
  refine ⟨h1, fun i j o t hi ho hne hd ht => ?_, fun i j t hi hj hne hd => ?_, fun i j hi hj hne he hp => ?_⟩
  · have hj : j < ops.size := (Array.getElem?_eq_some_iff.1 ho).1
    rcases h2 j hj i hi with h | ⟨⟨h, _⟩, _⟩
    · exact absurd h hne
    · simp only [hd, ho, Bool.or_eq_true, Bool.not_eq_true'] at h
      rcases h with h | h
      · have : (namesOf ops o).contains t = true := by simpa using ht
        rw [this] at h; cases h
      · exact h
  · rcases h2 j hj i hi with h | ⟨⟨_, h⟩, _⟩
    · exact absurd h hne
    · simpa [hd] using h
  · rcases h2 j hj i hi with h | ⟨_, h⟩
    · exact absurd h hne
    · simp [he, hp] at h
      rcases h with h | h
      · exact .inl h
      · exact .inr ⟨h.1.1, h.1.2, h.2⟩

section
variable {P : Program} {ops : Array Oper} {F : Act → World → Prop}
/-- What the walk in the text's order found: frames, classes, values. -/
structure MStep (P : Program) (ops : Array Oper) (j : Nat) (o : Oper) (a a' : Act) (C C' : World → Prop) (v : Value) : Prop where
  put : a' = a.put o.dst v
  keep : cls o.op ≠ .eff → cls o.op ≠ .new → C' = C
  how : (Region.wanted o (yielded ops a.tmps) = false ∧ v = undef ∧ C' = C) ∨
    (Region.wanted o (yielded ops a.tmps) = true ∧ (cls o.op = .pure → ∀ w, (execOp a.eval o).run P w = .ok (.value v) w) ∧ (cls o.op = .quiet → ∀ w, C w → o.quietAt P a C w v) ∧ (cls o.op = .eff → ∀ w, C w → effAt P o a C' w v) ∧ (cls o.op = .load → ∀ w0 w, C w0 → Ext w0 w → (execOp a.eval o).run P w = .ok (.value v) w) ∧ (cls o.op = .new → (∀ w, C w → effAt P o a C' w v) ∧ ∀ w', C' w' → ∃ w, C w ∧ Ext w w'))

theorem MW.data : ∀ (l : List Oper) (i : Nat) (C : World → Prop) (a : Act), MW P ops F l C a → ∃ (A : Nat → Act) (D : Nat → World → Prop) (V : Nat → Value), A i = a ∧ D i = C ∧
    (∀ j o, l[j]? = some o → MStep P ops (i + j) o (A (i + j)) (A (i + j + 1)) (D (i + j)) (D (i + j + 1)) (V (i + j))) ∧ ∀ w, D (i + l.length) w → F (A (i + l.length)) w := by
  intro l
  induction l with
  | nil => intro i C a h; exact ⟨fun _ => a, fun _ => C, fun _ => undef, rfl, rfl, fun j o ho => by simp at ho, h⟩
  | cons o rest ih =>
    intro i C a h
    have key : ∃ v C', MW P ops F rest C' (a.put o.dst v) ∧ MStep P ops i o a (a.put o.dst v) C C' v := by
      unfold MW at h
      by_cases hw : Region.wanted o (yielded ops a.tmps) = true
      · rw [if_pos hw] at h
        cases hc : cls o.op with
        | pure =>
          simp only [hc] at h
          obtain ⟨v, h1, h2⟩ := h
          exact ⟨v, C, h2, rfl, fun _ _ => rfl, .inr ⟨hw, fun _ => h1, fun h => (by cases hc.symm.trans h), fun h => (by cases hc.symm.trans h), fun h => (by cases hc.symm.trans h), fun h => (by cases hc.symm.trans h)⟩⟩
        | quiet =>
          simp only [hc] at h
          obtain ⟨v, h1, h2⟩ := h
          exact ⟨v, C, h2, rfl, fun _ _ => rfl, .inr ⟨hw, fun h => (by cases hc.symm.trans h), fun _ => h1, fun h => (by cases hc.symm.trans h), fun h => (by cases hc.symm.trans h), fun h => (by cases hc.symm.trans h)⟩⟩
        | load =>
          simp only [hc] at h
          obtain ⟨v, h1, h2⟩ := h
          exact ⟨v, C, h2, rfl, fun _ _ => rfl, .inr ⟨hw, fun h => (by cases hc.symm.trans h), fun h => (by cases hc.symm.trans h), fun h => (by cases hc.symm.trans h), fun _ => h1, fun h => (by cases hc.symm.trans h)⟩⟩
        | new =>
          simp only [hc] at h
          obtain ⟨v, C', h1, h2⟩ := h
          exact ⟨v, C', h2, rfl, fun _ h => absurd hc h, .inr ⟨hw, fun h => (by cases hc.symm.trans h), fun h => (by cases hc.symm.trans h), fun h => (by cases hc.symm.trans h), fun h => (by cases hc.symm.trans h), fun _ => h1⟩⟩
        | eff =>
          simp only [hc] at h
          obtain ⟨v, C', h1, h2⟩ := h
          exact ⟨v, C', h2, rfl, fun h => absurd hc h, .inr ⟨hw, fun h => (by cases hc.symm.trans h), fun h => (by cases hc.symm.trans h), fun _ => h1, fun h => (by cases hc.symm.trans h), fun h => (by cases hc.symm.trans h)⟩⟩
      · rw [if_neg hw] at h
        exact ⟨undef, C, h, rfl, fun _ _ => rfl, .inl ⟨by simpa using hw, rfl, rfl⟩⟩
    obtain ⟨v, C', h2, hs⟩ := key
    obtain ⟨A, D, V, hA, hD, hst, hfin⟩ := ih (i + 1) C' _ h2
    have ne : ∀ j, i + 1 + j ≠ i := fun j => by omega
    refine ⟨fun k => if k = i then a else A k, fun k => if k = i then C else D k, fun k => if k = i then v else V k, by simp, by simp, fun j o' ho => ?_, fun w hw => ?_⟩
    · cases j with
      | zero =>
        simp at ho
        subst ho
        simp only [Nat.add_zero, if_true, show i + 1 ≠ i by omega, if_false, hA, hD]
        exact hs
      | succ j =>
        have := hst j o' (by simpa using ho)
        simp only [show i + (j + 1) = i + 1 + j by omega, show i + 1 + j + 1 ≠ i by omega, ne j, if_false]
        exact this
    · simp only [List.length_cons, show i + (rest.length + 1) = i + 1 + rest.length by omega, ne, if_false] at hw ⊢
      exact hfin w hw

theorem put_size (a : Act) (d : Option Tmp) (v : Value) : (a.put d v).tmps.size = a.tmps.size := by cases d <;> simp [Act.put]
theorem put_defers (a : Act) (d : Option Tmp) (v : Value) : (a.put d v).defers = a.defers := by cases d <;> rfl
theorem put_ne (a : Act) {d : Option Tmp} {t : Tmp} (h : d ≠ some t) (v : Value) : (a.put d v).tmps[t]? = a.tmps[t]? := by
  cases d with
  | none => rfl
  | some d => simp [Act.put, Array.getElem?_setIfInBounds_ne (fun e : d = t => h (by rw [e]))]
theorem put_self {a b : Act} {t : Tmp} (h : a.tmps.size = b.tmps.size) (v : Value) : (a.put (some t) v).tmps[t]? = (b.put (some t) v).tmps[t]? := by
  simp [Act.put, Array.getElem?_setIfInBounds, h]

/-- What holds whatever has been carried out so far. -/
structure MJ (ops : Array Oper) (A : Nat → Act) (D : Nat → World → Prop) (listed : Array Bool) (a : Act) (w : World) : Prop where
  size : listed.size = ops.size
  asize : a.tmps.size = (A 0).tmps.size
  defers : a.defers = (A 0).defers
  closed : ∀ j, listed.getD j false = true → ∀ i, dir ops j i = true → listed.getD i false = true
  done : ∀ i t, i < ops.size → dstOf ops i = some t → listed.getD i false = true → a.tmps[t]? = (A (i + 1)).tmps[t]?
  todo : ∀ t, (∀ i, i < ops.size → dstOf ops i = some t → listed.getD i false = false) → a.tmps[t]? = (A 0).tmps[t]?
  phase : ∃ k, (∀ i, i < ops.size → isEff ops i = true → (listed.getD i false = true ↔ i < k)) ∧ k ≤ ops.size ∧ D k w

theorem getD_tf {l : Array Bool} {i : Nat} (h : l.getD i true = false) : l.getD i false = false := by
  rcases Nat.lt_or_ge i l.size with h' | h'
  · simpa [h'] using h
  · simp [Array.getElem?_eq_none h'] at h
theorem getD_set_self {l : Array Bool} {i : Nat} (h : i < l.size) : (l.setIfInBounds i true).getD i false = true := by simp [h]
theorem getD_set_ne' {l : Array Bool} {i j : Nat} (h : i ≠ j) : (l.setIfInBounds i true).getD j false = l.getD j false := getD_set_ne false h

theorem eval_of_slots {a b : Act} (o : Oper) (h : ∀ t ∈ o.looksAt ops, a.tmps[t]? = b.tmps[t]?) : (∀ x ∈ o.op.operands, a.eval x = b.eval x) ∧ Region.wanted o (yielded ops a.tmps) = Region.wanted o (yielded ops b.tmps) := by
  refine ⟨fun x hx => ?_, ?_⟩
  · cases x with
    | tmp t =>
      have := h t (by
        unfold Oper.looksAt
        exact List.mem_append_left _ (List.mem_filterMap.2 ⟨.tmp t, by simpa using hx, rfl⟩))
      simp [Act.eval, this]
    | const v => rfl
    | global g => rfl
    | func f => rfl
  · unfold Region.wanted
    cases hg : o.guard with
    | none => rfl
    | some gw =>
      obtain ⟨g, want⟩ := gw
      have : yielded ops a.tmps g = yielded ops b.tmps g := by
        unfold yielded
        cases ht : (ops[g]?).bind (·.dst) with
        | none => rfl
        | some t =>
          have := h t (by unfold Oper.looksAt; exact List.mem_append_right _ (by simp [hg, ht]))
          simp [this]
      simp only [this]

section
variable {A : Nat → Act} {D : Nat → World → Prop} {V : Nat → Value}
variable (hB : mixB ops = true) (hst : ∀ j o, ops[j]? = some o → MStep P ops j o (A j) (A (j + 1)) (D j) (D (j + 1)) (V j))
include hst
theorem A_size {k : Nat} (hk : k ≤ ops.size) : (A k).tmps.size = (A 0).tmps.size ∧ (A k).defers = (A 0).defers := by
  induction k with
  | zero => exact ⟨rfl, rfl⟩
  | succ k ih =>
    obtain ⟨h1, h2⟩ := ih (by omega)
    have hs := hst k _ (Array.getElem?_eq_getElem (by omega))
    rw [hs.put]
    exact ⟨(put_size _ _ _).trans h1, (put_defers _ _ _).trans h2⟩
theorem A_keep {t : Tmp} {i k : Nat} (hik : i ≤ k) (hk : k ≤ ops.size) (h : ∀ j, i ≤ j → j < k → dstOf ops j ≠ some t) : (A k).tmps[t]? = (A i).tmps[t]? := by
  induction k with
  | zero => have : i = 0 := by omega
            subst this; rfl
  | succ k ih =>
    by_cases e : i = k + 1
    · subst e; rfl
    · have hkl : k < ops.size := by omega
      have hs := hst k _ (Array.getElem?_eq_getElem hkl)
      rw [hs.put, put_ne _ (fun hd => h k (by omega) (by omega) (by simp [dstOf, Array.getElem?_eq_getElem hkl, hd]))]
      exact ih (by omega) (by omega) fun j h1 h2 => h j h1 (by omega)
theorem D_keep {i k : Nat} (hik : i ≤ k) (hk : k ≤ ops.size) (h : ∀ j, i ≤ j → j < k → isEff ops j = false) : D k = D i := by
  induction k with
  | zero => have : i = 0 := by omega
            subst this; rfl
  | succ k ih =>
    by_cases e : i = k + 1
    · subst e; rfl
    · have hkl : k < ops.size := by omega
      have hs := hst k _ (Array.getElem?_eq_getElem hkl)
      have := h k (by omega) (by omega)
      rw [hs.keep (by intro hc; simp [isEff, Array.getElem?_eq_getElem hkl, hc] at this) (by intro hc; simp [isEff, Array.getElem?_eq_getElem hkl, hc] at this)]
      exact ih (by omega) (by omega) fun j h1 h2 => h j h1 (by omega)
theorem D_ext {i k : Nat} (hik : i ≤ k) (hk : k ≤ ops.size) (h : ∀ j, i ≤ j → j < k → isEff ops j = true → isNew ops j = true) : ∀ w, D k w → ∃ w0, D i w0 ∧ Ext w0 w := by
  induction k with
  | zero => have : i = 0 := by omega
            subst this; exact fun w hw => ⟨w, hw, Ext.refl w⟩
  | succ k ih =>
    by_cases e : i = k + 1
    · subst e; exact fun w hw => ⟨w, hw, Ext.refl w⟩
    · have hkl : k < ops.size := by omega
      have ho := Array.getElem?_eq_getElem hkl
      have hs := hst k _ ho
      have hth := h k (by omega) (by omega)
      have step : ∀ w, D (k + 1) w → ∃ w0, D k w0 ∧ Ext w0 w := fun w hw => by
        cases hE : isEff ops k with
        | false =>
          rw [hs.keep (by intro hc; simp [isEff, ho, hc] at hE) (by intro hc; simp [isEff, ho, hc] at hE)] at hw
          exact ⟨w, hw, Ext.refl w⟩
        | true =>
          have hn := hth hE
          simp only [isNew, ho, decide_eq_true_eq] at hn
          rcases hs.how with ⟨_, _, hDD⟩ | ⟨_, _, _, _, _, hnew⟩
          · rw [hDD] at hw; exact ⟨w, hw, Ext.refl w⟩
          · exact (hnew hn).2 w hw
      intro w hw
      obtain ⟨w1, h1, e1⟩ := step w hw
      obtain ⟨w0, h0, e0⟩ := ih (by omega) (by omega) (fun j h1 h2 => h j h1 (by omega)) w1 h1
      exact ⟨w0, h0, e0.trans e1⟩
include hB
theorem MJ.full {listed : Array Bool} {a : Act} {w : World} (hJ : MJ ops A D listed a w) (hall : ∀ i, i < ops.size → listed.getD i false = true) : a = A ops.size ∧ D ops.size w := by
  obtain ⟨_, _, huniq, _⟩ := mixB_spec hB
  obtain ⟨hs, hd⟩ := A_size hst (Nat.le_refl ops.size)
  have htm : a.tmps = (A ops.size).tmps := by
    apply Array.ext_getElem?
    intro t
    by_cases hw : ∃ i, i < ops.size ∧ dstOf ops i = some t
    · obtain ⟨i, hi, hdi⟩ := hw
      rw [hJ.done i t hi hdi (hall i hi)]
      exact (A_keep hst (by omega) (Nat.le_refl _) fun j h1 h2 => huniq i j t hi h2 (by omega) hdi).symm
    · have hw' : ∀ i, i < ops.size → dstOf ops i ≠ some t := fun i hi hd => hw ⟨i, hi, hd⟩
      rw [hJ.todo t fun i hi hd => absurd hd (hw' i hi)]
      exact (A_keep hst (Nat.zero_le _) (Nat.le_refl _) fun j _ h2 => hw' j h2).symm
  refine ⟨?_, ?_⟩
  · have h1 := hJ.defers
    cases a; cases hA : A ops.size
    rw [hA] at htm hd
    simp only at htm hd h1
    rw [htm, h1, hd]
  · obtain ⟨k, hk, hkn, hD⟩ := hJ.phase
    rw [D_keep hst hkn (Nat.le_refl _) fun j h1 h2 => by
      cases he : isEff ops j with
      | false => rfl
      | true => have := (hk j h2 he).1 (hall j h2); omega]
    exact hD
/-- What an operation that is ready sees. -/
theorem MJ.sees {listed : Array Bool} {a : Act} {w : World} (hJ : MJ ops A D listed a w) {j : Nat} {o : Oper} (ho : ops[j]? = some o) (hun : listed.getD j false = false) (hdeps : ∀ i, dir ops j i = true → listed.getD i false = true) :
    (∀ t ∈ o.looksAt ops, a.tmps[t]? = (A j).tmps[t]?) ∧ (isPure ops j = false → isLoad ops j = false → (∀ i, i < ops.size → isEff ops i = true → (listed.getD i false = true ↔ i < j)) ∧ D j w) ∧ (isLoad ops j = true → ∃ w0, D j w0 ∧ Ext w0 w) := by
  obtain ⟨_, hnames, huniq, heff⟩ := mixB_spec hB
  have hj : j < ops.size := (Array.getElem?_eq_some_iff.1 ho).1
  have hord : ∀ i, i < ops.size → i ≠ j → ordB ops i j = true → (listed.getD i false = true ↔ i < j) := fun i hi hne h => by
    unfold ordB at h
    by_cases hij : i < j
    · rw [if_pos hij] at h
      exact ⟨fun _ => hij, fun _ => bef_listed hJ.closed (j + 1) j (by omega) hdeps h⟩
    · rw [if_neg hij] at h
      refine ⟨fun hl => ?_, fun h => absurd h hij⟩
      rw [bef_listed hJ.closed (i + 1) i (by omega) (hJ.closed i hl) h] at hun
      cases hun
  refine ⟨fun t ht => ?_, fun hp hnl => ?_, fun hld => ?_⟩
  · by_cases hw : ∃ i, i < ops.size ∧ dstOf ops i = some t
    · obtain ⟨i, hi, hdi⟩ := hw
      have others : ∀ k, k < ops.size → k ≠ i → dstOf ops k ≠ some t := fun k hk hne => huniq i k t hi hk (Ne.symm hne) hdi
      by_cases hij : i = j
      · subst hij
        rw [hJ.todo t fun k hk hd => by
          by_cases e : k = i
          · rw [e]; exact hun
          · exact absurd hd (others k hk e)]
        exact (A_keep hst (Nat.zero_le _) (by omega) fun k _ h2 => others k (by omega) (by omega)).symm
      · have h1 := hord i hi hij (hnames i j o t hi ho hij hdi ht)
        by_cases hl : listed.getD i false = true
        · have hlt := h1.1 hl
          rw [hJ.done i t hi hdi hl]
          exact (A_keep hst (by omega) (by omega) fun k h3 h4 => others k (by omega) (by omega)).symm
        · have hge : ¬ i < j := fun h => hl (h1.2 h)
          rw [hJ.todo t fun k hk hd => by
            by_cases e : k = i
            · rw [e]; simpa using hl
            · exact absurd hd (others k hk e)]
          exact (A_keep hst (Nat.zero_le _) (by omega) fun k _ h2 => others k (by omega) (by omega)).symm
    · have hw' : ∀ i, i < ops.size → dstOf ops i ≠ some t := fun i hi hd => hw ⟨i, hi, hd⟩
      rw [hJ.todo t fun i hi hd => absurd hd (hw' i hi)]
      exact (A_keep hst (Nat.zero_le _) (by omega) fun k _ h2 => hw' k (by omega)).symm
  · have h1 : ∀ i, i < ops.size → isEff ops i = true → (listed.getD i false = true ↔ i < j) := fun i hi he => by
      by_cases hij : i = j
      · subst hij
        rw [hun]
        simp
      · exact hord i hi hij ((heff i j hi hj hij he hp).resolve_right fun h => by rw [hnl] at h; cases h.2.1)
    refine ⟨h1, ?_⟩
    obtain ⟨k, hk, hkn, hD⟩ := hJ.phase
    have h2 : ∀ i, i < ops.size → isEff ops i = true → (i < k ↔ i < j) := fun i hi he => (hk i hi he).symm.trans (h1 i hi he)
    rcases Nat.le_total k j with hle | hle
    · rw [D_keep hst hle (by omega) fun i h3 h4 => by
        cases he : isEff ops i with
        | false => rfl
        | true => have := (h2 i (by omega) he).2 h4; omega]
      exact hD
    · rw [D_keep hst hle hkn fun i h3 h4 => by
        cases he : isEff ops i with
        | false => rfl
        | true => have := (h2 i (by omega) he).1 h4; omega] at hD
      exact hD
  · have hp : isPure ops j = false := by
      simp only [isLoad, ho, decide_eq_true_eq] at hld
      simp [isPure, ho, hld]
    have hne : ∀ i, isEff ops i = true → i ≠ j := fun i he e => by
      subst e
      simp only [isLoad, ho, decide_eq_true_eq] at hld
      simp [isEff, ho, hld] at he
    obtain ⟨k, hk, hkn, hD⟩ := hJ.phase
    rcases Nat.le_total k j with hle | hle
    · refine ⟨w, ?_, Ext.refl w⟩
      rw [D_keep hst hle (by omega) fun i h3 h4 => by
        cases he : isEff ops i with
        | false => rfl
        | true =>
          rcases heff i j (by omega) hj (hne i he) he hp with h | h
          · have := (hk i (by omega) he).1 ((hord i (by omega) (hne i he) h).2 h4); omega
          · omega]
      exact hD
    · refine D_ext hst hle hkn (fun i h3 h4 he => ?_) w hD
      rcases heff i j (by omega) hj (hne i he) he hp with h | h
      · have := (hord i (by omega) (hne i he) h).1 ((hk i (by omega) he).2 h4); omega
      · exact h.1
theorem MJ.next {listed : Array Bool} {a : Act} {w w' : World} (hJ : MJ ops A D listed a w) {j : Nat} {o : Oper} (ho : ops[j]? = some o) (hun : listed.getD j false = false) (hdeps : ∀ i, dir ops j i = true → listed.getD i false = true)
    (hD : ∃ k, (∀ i, i < ops.size → isEff ops i = true → ((listed.setIfInBounds j true).getD i false = true ↔ i < k)) ∧ k ≤ ops.size ∧ D k w') : MJ ops A D (listed.setIfInBounds j true) (a.put o.dst (V j)) w' := by
  obtain ⟨_, hnames, huniq, heff⟩ := mixB_spec hB
  have hj : j < ops.size := (Array.getElem?_eq_some_iff.1 ho).1
  have hjl : j < listed.size := by rw [hJ.size]; exact hj
  have hdo : dstOf ops j = o.dst := by simp [dstOf, ho]
  have hs := hst j o ho
  refine ⟨by simp [hJ.size], (put_size _ _ _).trans hJ.asize, (put_defers _ _ _).trans hJ.defers, fun i hi k hk => ?_, fun i t hi hdi hl => ?_, fun t h => ?_, hD⟩
  · by_cases hkj : j = k
    · subst hkj; exact getD_set_self hjl
    · rw [getD_set_ne' hkj]
      by_cases hij : j = i
      · subst hij; exact hdeps k hk
      · rw [getD_set_ne' hij] at hi
        exact hJ.closed i hi k hk
  · by_cases hij : j = i
    · subst hij
      rw [hs.put]
      have : o.dst = some t := hdo.symm.trans hdi
      rw [this]
      exact put_self (hJ.asize.trans (A_size hst (by omega)).1.symm) _
    · rw [getD_set_ne' hij] at hl
      rw [put_ne _ (fun hd => huniq i j t hi hj (Ne.symm hij) hdi (hdo.trans hd))]
      exact hJ.done i t hi hdi hl
  · rw [put_ne _ (fun hd => by
      have := h j hj (hdo.trans hd)
      rw [getD_set_self hjl] at this
      cases this)]
    refine hJ.todo t fun i hi hdi => ?_
    have := h i hi hdi
    by_cases hij : j = i
    · subst hij; exact hun
    · rwa [getD_set_ne' hij] at this

theorem MJ.sound {Q : Exit → Act → World → Prop} (hfin : ∀ w, D ops.size w → Q .normal (A ops.size) w) :
    ∀ (fuel : Nat) (U : List Nat) (listed : Array Bool) (a : Act) (w : World), MJ ops A D listed a w → (∀ i, i < ops.size → listed.getD i false = false → i ∈ U) → U.length ≤ fuel → wpAny P .any ops Q fuel listed a w := by
  have hsel := (mixB_spec hB).1
  have hend : ∀ (listed : Array Bool) (a : Act) (w : World), MJ ops A D listed a w → Region.ready .any ops listed = [] → Q .normal a w := by
    intro listed a w hJ hr
    have hall : ∀ n i, i < n → i < ops.size → listed.getD i false = true := by
      intro n
      induction n with
      | zero => intro i h; omega
      | succ n ih =>
        intro i hin hi
        by_cases e : i < n
        · exact ih i e hi
        · have hi' : i = n := by omega
          subst hi'
          cases hl : listed.getD i false with
          | true => rfl
          | false =>
            exfalso
            have hmem : i ∈ Region.ready .any ops listed := by
              rw [mem_ready]
              refine ⟨by
                have h1 : i < listed.size := by rw [hJ.size]; exact hi
                simpa [h1] using hl, ops[i], Array.getElem?_eq_getElem hi, fun e he hb => ?_⟩
              have htop := hB
              simp only [mixB, Bool.and_eq_true, List.all_eq_true, List.mem_range] at htop
              have := htop.2 i hi
              simp only [Array.getElem?_eq_getElem hi, Array.all_eq_true_iff_forall_mem] at this
              have h2 := this e he
              simp [hb] at h2
              exact ih e.on h2 (by omega)
            rw [hr] at hmem
            cases hmem
    obtain ⟨rfl, hD⟩ := hJ.full hB hst fun i hi => hall (i + 1) i (by omega) hi
    exact hfin w hD
  intro fuel
  induction fuel with
  | zero =>
    intro U listed a w hJ hU hlen
    have hr : Region.ready .any ops listed = [] := by
      cases hc : Region.ready .any ops listed with
      | nil => rfl
      | cons i r =>
        have hm : i ∈ Region.ready .any ops listed := by rw [hc]; simp
        obtain ⟨h0, o, ho, _⟩ := mem_ready.1 hm
        have := hU i (Array.getElem?_eq_some_iff.1 ho).1 (getD_tf h0)
        rw [List.eq_nil_of_length_eq_zero (by omega : U.length = 0)] at this
        cases this
    exact ⟨hr, hend _ _ _ hJ hr⟩
  | succ fuel ih =>
    intro U listed a w hJ hU hlen
    refine ⟨fun hr => hend _ _ _ hJ hr, fun j hj => ?_⟩
    obtain ⟨h0, o, ho, hafter⟩ := mem_ready.1 hj
    have hun := getD_tf h0
    have hjn : j < ops.size := (Array.getElem?_eq_some_iff.1 ho).1
    have hdeps : ∀ i, dir ops j i = true → listed.getD i false = true := fun i hi => by
      simp only [dir, ho] at hi
      obtain ⟨e, he, hb⟩ := Array.any_eq_true'.1 hi
      simp only [Bool.and_eq_true, beq_iff_eq] at hb
      rw [← hb.2]
      exact hafter e he hb.1
    obtain ⟨hslots, hph0, hld⟩ := hJ.sees hB hst ho hun hdeps
    obtain ⟨hops, hwant⟩ := eval_of_slots o hslots
    have hex : execOp a.eval o = execOp (A j).eval o := execOp_congr o (fun cs b => Region.noSelect_spec hsel j o cs b ho) hops
    have hs := hst j o ho
    have hjU : j ∈ U := hU j hjn hun
    have cont : ∀ w', (∃ k, (∀ i, i < ops.size → isEff ops i = true → ((listed.setIfInBounds j true).getD i false = true ↔ i < k)) ∧ k ≤ ops.size ∧ D k w') →
        wpAny P .any ops Q fuel (listed.setIfInBounds j true) (a.put o.dst (V j)) w' := fun w' hD =>
      ih (U.erase j) _ _ _ (hJ.next hB hst ho hun hdeps hD) (fun i hi hl => by
        by_cases e : j = i
        · subst e
          rw [getD_set_self (by rw [hJ.size]; exact hjn)] at hl
          cases hl
        · rw [getD_set_ne' e] at hl
          exact (List.mem_erase_of_ne (Ne.symm e)).2 (hU i hi hl)) (by rw [List.length_erase_of_mem hjU]; omega)
    -- what stays where it was
    have stay : isEff ops j = false → ∃ k, (∀ i, i < ops.size → isEff ops i = true → ((listed.setIfInBounds j true).getD i false = true ↔ i < k)) ∧ k ≤ ops.size ∧ D k w := fun he => by
      obtain ⟨k, hk, hkn, hD⟩ := hJ.phase
      refine ⟨k, fun i hi hie => ?_, hkn, hD⟩
      by_cases e : j = i
      · subst e; rw [he] at hie; cases hie
      · rw [getD_set_ne' e]; exact hk i hi hie
    have on : isPure ops j = false → isLoad ops j = false → ∀ w', D (j + 1) w' → ∃ k, (∀ i, i < ops.size → isEff ops i = true → ((listed.setIfInBounds j true).getD i false = true ↔ i < k)) ∧ k ≤ ops.size ∧ D k w' := fun hp hl w' hD => by
      obtain ⟨h1, _⟩ := hph0 hp hl
      refine ⟨j + 1, fun i hi hie => ?_, by omega, hD⟩
      by_cases e : j = i
      · subst e; rw [getD_set_self (by rw [hJ.size]; exact hjn)]; simp
      · rw [getD_set_ne' e, h1 i hi hie]; omega
    unfold wpOp
    simp only [ho]
    rw [hwant]
    rcases hs.how with ⟨hw, hv, hDD⟩ | ⟨hw, hpure, hquiet, heff, hload, hnew⟩
    · rw [if_neg (by rw [hw]; simp)]
      rw [← hv]
      refine cont w ?_
      by_cases hp : isPure ops j = true
      · exact stay (by
          simp only [isPure, ho, decide_eq_true_eq] at hp
          simp [isEff, ho, hp])
      · have hp' : isPure ops j = false := by simpa using hp
        by_cases hl : isLoad ops j = true
        · exact stay (by
            simp only [isLoad, ho, decide_eq_true_eq] at hl
            simp [isEff, ho, hl])
        · have hl' : isLoad ops j = false := by simpa using hl
          exact on hp' hl' w (by rw [hDD]; exact (hph0 hp' hl').2)
    · rw [if_pos hw]
      refine .inl ?_
      unfold Oper.wp
      rw [hex]
      cases hc : cls o.op with
      | pure =>
        rw [hpure hc w]
        exact cont w (stay (by simp [isEff, ho, hc]))
      | quiet =>
        have hp' : isPure ops j = false := by simp [isPure, ho, hc]
        have hl' : isLoad ops j = false := by simp [isLoad, ho, hc]
        have hDj := (hph0 hp' hl').2
        have hDj1 : D (j + 1) = D j := hs.keep (by rw [hc]; simp) (by rw [hc]; simp)
        have hq := hquiet hc w hDj
        unfold Oper.quietAt at hq
        generalize (execOp (A j).eval o).run P w = r at hq
        cases r with
        | ok n w' =>
          cases n <;> simp only [Oper.quietUpon] at hq <;> simp only [Oper.upon]
          case value u => obtain ⟨rfl, rfl⟩ := hq; exact cont _ (on hp' hl' _ (by rw [hDj1]; exact hDj))
          case skip => obtain ⟨rfl, hv⟩ := hq; rw [← hv]; exact cont _ (on hp' hl' _ (by rw [hDj1]; exact hDj))
          case enter f args =>
            obtain ⟨rfl, hcall⟩ := hq
            refine hcall.mono fun e w'' ⟨he, hC⟩ => ?_
            subst he
            exact cont _ (on hp' hl' _ (by rw [hDj1]; exact hC))
        | halt h w' => simp only [Oper.quietUpon] at hq
      | load =>
        obtain ⟨w0, hD0, hE⟩ := hld (by simp [isLoad, ho, hc])
        rw [hload hc w0 w hD0 hE]
        exact cont w (stay (by simp [isEff, ho, hc]))
      | new =>
        have hp' : isPure ops j = false := by simp [isPure, ho, hc]
        have hl' : isLoad ops j = false := by simp [isLoad, ho, hc]
        have hDj := (hph0 hp' hl').2
        have hq := (hnew hc).1 w hDj
        unfold effAt at hq
        generalize (execOp (A j).eval o).run P w = r at hq
        cases r with
        | ok n w' =>
          cases n <;> simp only at hq <;> simp only [Oper.upon]
          case value u => obtain ⟨rfl, hC⟩ := hq; exact cont _ (on hp' hl' _ hC)
          case skip => obtain ⟨hv, hC⟩ := hq; rw [← hv]; exact cont _ (on hp' hl' _ hC)
          case enter f args =>
            refine hq.mono fun e w'' ⟨he, hC⟩ => ?_
            subst he
            exact cont _ (on hp' hl' _ hC)
        | halt h w' => simp only at hq
      | eff =>
        have hp' : isPure ops j = false := by simp [isPure, ho, hc]
        have hl' : isLoad ops j = false := by simp [isLoad, ho, hc]
        have hDj := (hph0 hp' hl').2
        have hq := heff hc w hDj
        unfold effAt at hq
        generalize (execOp (A j).eval o).run P w = r at hq
        cases r with
        | ok n w' =>
          cases n <;> simp only at hq <;> simp only [Oper.upon]
          case value u => obtain ⟨rfl, hC⟩ := hq; exact cont _ (on hp' hl' _ hC)
          case skip => obtain ⟨hv, hC⟩ := hq; rw [← hv]; exact cont _ (on hp' hl' _ hC)
          case enter f args =>
            refine hq.mono fun e w'' ⟨he, hC⟩ => ?_
            subst he
            exact cont _ (on hp' hl' _ hC)
        | halt h w' => simp only at hq
end

theorem wp_region_mixed {id : Nat} {Q : Exit → Act → World → Prop} {a : Act} {w : World} {C : World → Prop} {l : List Oper} (hm : P.follows .mixedOrders = true) (hB : mixB l.toArray = true) (hC : C { w with drawn := w.drawn + 1 })
    (h : MW P l.toArray (Q .normal) l C a) : (Code.region id l.toArray true).wp P Q a w := by
  refine wp_region_any hm ?_
  obtain ⟨A, D, V, hA, hD, hst, hfin⟩ := MW.data l 0 C a h
  simp only [Nat.zero_add] at hst hfin
  have hst' : ∀ j o, l.toArray[j]? = some o → MStep P l.toArray j o (A j) (A (j + 1)) (D j) (D (j + 1)) (V j) := fun j o ho => hst j o (by simpa using ho)
  refine MJ.sound (A := A) (D := D) (V := V) hB hst' (by simpa using hfin) _ (List.range l.toArray.size) _ _ _ ⟨by simp, by rw [hA], by rw [hA], fun j hj => ?_, fun i t hi hd hl => ?_, fun t _ => by rw [hA], 0, fun i hi he => ?_, Nat.zero_le _, by rw [hD]; exact hC⟩ (fun i hi _ => List.mem_range.2 hi) (by simp)
  · rw [getD_replicate_false] at hj; cases hj
  · rw [getD_replicate_false] at hl; cases hl
  · rw [getD_replicate_false]; simp
end
end Go.Proofs.Ytnckabgaichkkaa.Eng
