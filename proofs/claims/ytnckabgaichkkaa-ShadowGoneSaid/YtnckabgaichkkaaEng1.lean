/-
The engine of these proofs, first part: what a frame's slots hold, what stands in memory (a list of chunks), and the rules for a function's control.
-/
import Derived.Test.YtnckabgaichkkaaEngM
import Derived.WalkKit
import Derived.KernelRfl
import Derived.Deep.Quiet
import Derived.StillTail
import Derived.Lib.Hide
import Derived.Deep.LoopGhost
namespace Go.Proofs.Ytnckabgaichkkaa.Eng
set_option linter.unusedVariables false
set_option linter.unusedSimpArgs false
open Go

/-! ### Frames -/
abbrev Fr := List (Nat × Value)
def look : Fr → Nat → Option Value
  | [], _ => none
  | (k, v) :: r, t => bif Nat.beq k t then some v else look r t

structure Has (a : Act) (n : Nat) (l : Fr) : Prop where
  size : a.tmps.size = n
  defers : a.defers = []
  slot : ∀ t v, look l t = some v → a.tmps[t]? = some v

def ev (l : Fr) : Operand → Option Value
  | .tmp t => look l t
  | .const v => some v
  | .global g => some (.pointer (some ⟨g, 0, none⟩))
  | .func f => some (.func (.func f) #[] #[])

def evs (l : Fr) : List Operand → Option (List Value)
  | [] => some []
  | x :: r => match ev l x with
    | some v => match evs l r with
      | some vs => some (v :: vs)
      | none => none
    | none => none

section
variable {a : Act} {n : Nat} {l : Fr}
theorem Has.eval (h : Has a n l) {x : Operand} {v : Value} (e : ev l x = some v) : a.eval x = v := by
  cases x with
  | tmp t => simp [Act.eval, h.slot t v e]
  | const u => simpa [ev, Act.eval] using e
  | global g => simpa [ev, Act.eval] using e
  | func f => simpa [ev, Act.eval] using e
theorem Has.evals (h : Has a n l) {xs : List Operand} {vs : List Value} (e : evs l xs = some vs) : xs.map a.eval = vs := by
  induction xs generalizing vs with
  | nil => simpa [evs] using e
  | cons x r ih =>
    simp only [evs] at e
    cases hx : ev l x with
    | none => simp [hx] at e
    | some v =>
      cases hr : evs l r with
      | none => simp [hx, hr] at e
      | some us =>
        simp [hx, hr] at e
        subst e
        simp [h.eval hx, ih hr]
theorem Has.put (h : Has a n l) {d : Nat} (hd : d < n) (v : Value) : Has (a.put (some d) v) n ((d, v) :: l) := by
  refine ⟨by simp [Act.put, h.size], by simp [Act.put, h.defers], fun t u hu => ?_⟩
  simp only [look] at hu
  by_cases e : d = t
  · subst e
    simp at hu
    subst hu
    simp [Act.put, h.size, hd]
  · have : Nat.beq d t = false := by
      cases hb : Nat.beq d t with
      | false => rfl
      | true => exact absurd (Nat.eq_of_beq_eq_true hb) e
    simp [this] at hu
    simp [Act.put, Array.getElem?_setIfInBounds_ne e, h.slot t u hu]
theorem Has.puto (h : Has a n l) (v : Value) : Has (a.put none v) n l := h
/-- What a frame holds, said of fewer slots. -/
def Sub : Fr → Fr → Prop
  | [], _ => True
  | (t, v) :: r, l => look l t = some v ∧ Sub r l
theorem Sub.look {l' : Fr} (h : Sub l' l) {t : Nat} {v : Value} (e : look l' t = some v) : look l t = some v := by
  induction l' with
  | nil => simp [Eng.look] at e
  | cons p r ih =>
    obtain ⟨k, u⟩ := p
    simp only [Eng.look] at e
    cases hb : Nat.beq k t with
    | true => simp [hb] at e; subst e; exact Nat.eq_of_beq_eq_true hb ▸ h.1
    | false => simp [hb] at e; exact ih h.2 e
theorem Has.sub (h : Has a n l) {l' : Fr} (hs : Sub l' l) : Has a n l' := ⟨h.size, h.defers, fun t v e => h.slot t v (hs.look e)⟩
end

/-! ### Memory -/
structure Chunk where
  foot : Nat → Prop
  holds : World → Prop
  loc : ∀ w w' : World, (∀ k, foot k → w'.heap[k]? = w.heap[k]?) → holds w → holds w'
  lives : ∀ (w : World) k, holds w → foot k → k < w.heap.size

/-- Block b is just these cells, of element type T, none frozen. -/
def cells (b T : Nat) (cs : List Value) : Chunk where
  foot := fun k => k = b
  holds := fun w => w.heap[b]? = some (.cells cs.toArray T (0, 0))
  loc := fun w w' h hw => (h b rfl).trans hw
  lives := fun w k hw hk => by
    subst hk
    rcases Nat.lt_or_ge k w.heap.size with h | h
    · exact h
    · rw [Array.getElem?_eq_none h] at hw; cases hw

/-- What a call found: the world, and what of it is told chunk by chunk. -/
structure Base where
  w : World
  hp : List Chunk

def Apart (hp : List Chunk) : Prop := hp.Pairwise fun c d => ∀ k, c.foot k → ¬ d.foot k

structure Pre (w : World) (hp : List Chunk) : Prop where
  all : ∀ c ∈ hp, c.holds w
  apart : Apart hp

structure St (B : Base) (w : World) (hp : List Chunk) : Prop where
  os : w.os = B.w.os
  tape : w.tape = B.w.tape
  output : w.output = B.w.output
  size : B.w.heap.size ≤ w.heap.size
  all : ∀ c ∈ hp, c.holds w
  apart : Apart hp
  new : ∀ c ∈ hp, ∀ k, c.foot k → (∃ d ∈ B.hp, d.foot k) ∨ B.w.heap.size ≤ k
  rest : ∀ k, k < B.w.heap.size → (∀ d ∈ B.hp, ¬ d.foot k) → w.heap[k]? = B.w.heap[k]?
  drawn : B.w.drawn ≤ w.drawn

section
variable {B : Base} {w w' : World} {hp hp' pr po rest : List Chunk} {c d : Chunk}
theorem St.toPre (h : St B w hp) : Pre w hp := ⟨h.all, h.apart⟩
theorem Pre.st (h : Pre w hp) : St ⟨w, hp⟩ w hp := ⟨rfl, rfl, rfl, Nat.le_refl _, h.all, h.apart, fun c hc k hk => .inl ⟨c, hc, hk⟩, fun _ _ _ => rfl, Nat.le_refl _⟩
theorem St.drew (h : St B w hp) : St B { w with drawn := w.drawn + 1 } hp :=
  ⟨h.os, h.tape, h.output, h.size, fun c hc => c.loc w _ (fun _ _ => rfl) (h.all c hc), h.apart, h.new, h.rest, Nat.le_succ_of_le h.drawn⟩
theorem St.sub (h : St B w hp) (hs : hp'.Sublist hp) : St B w hp' :=
  ⟨h.os, h.tape, h.output, h.size, fun c hc => h.all c (hs.subset hc), h.apart.sublist hs, fun c hc => h.new c (hs.subset hc), h.rest, h.drawn⟩
theorem Apart.perm (h : Apart hp) (hs : hp.Perm hp') : Apart hp' :=
  (hs.pairwise_iff (R := fun c d : Chunk => ∀ k, c.foot k → ¬ d.foot k) (fun {x y} hxy k hk hk' => hxy k hk' hk)).1 h
theorem St.ext (h : St B w hp) (e : Ext w w') : St B w' hp :=
  ⟨e.os.trans h.os, e.tape.trans h.tape, e.output.trans h.output, Nat.le_trans h.size e.size, fun c hc => c.loc w w' (fun k hk => e.block k (c.lives w k (h.all c hc) hk)) (h.all c hc), h.apart, h.new, fun k hk hn => (e.block k (Nat.lt_of_lt_of_le hk h.size)).trans (h.rest k hk hn), Nat.le_trans h.drawn e.drawn⟩
theorem St.perm (h : St B w hp) (hs : hp.Perm hp') : St B w hp' :=
  ⟨h.os, h.tape, h.output, h.size, fun c hc => h.all c (hs.symm.subset hc), h.apart.perm hs, fun c hc => h.new c (hs.symm.subset hc), h.rest, h.drawn⟩
theorem Pre.perm (h : Pre w hp) (hs : hp.Perm hp') : Pre w hp' := ⟨fun c hc => h.all c (hs.symm.subset hc), h.apart.perm hs⟩
theorem Pre.sub (h : Pre w hp) (hs : hp'.Sublist hp) : Pre w hp' := ⟨fun c hc => h.all c (hs.subset hc), h.apart.sublist hs⟩
theorem perm_front {hp : List Chunk} (i : Nat) {c : Chunk} (h : hp[i]? = some c) : hp.Perm (c :: hp.eraseIdx i) := by
  induction hp generalizing i with
  | nil => simp at h
  | cons x r ih =>
    cases i with
    | zero => simp at h; subst h; simp
    | succ i =>
      simp at h
      simp only [List.eraseIdx_cons_succ]
      exact ((ih i h).cons x).trans (List.Perm.swap _ _ _)
theorem St.front (h : St B w hp) (i : Nat) (hi : hp[i]? = some c) : St B w (c :: hp.eraseIdx i) := h.perm (perm_front i hi)
theorem St.at_ (h : St B w hp) (i : Nat) (hi : hp[i]? = some c) : c.holds w := h.all c (List.mem_of_getElem? hi)
/-- Some of the chunks alone. -/
def maskL {α : Type _} : List Bool → List α → List α
  | true :: bs, x :: r => x :: maskL bs r
  | false :: bs, _ :: r => maskL bs r
  | [], r => r
  | _ :: _, [] => []
theorem maskL_sub {α : Type _} (bs : List Bool) (l : List α) : (maskL bs l).Sublist l := by
  induction bs generalizing l with
  | nil => simp [maskL]
  | cons b bs ih =>
    cases l with
    | nil => cases b <;> simp [maskL]
    | cons x r =>
      cases b
      · exact (ih r).cons x
      · exact (ih r).cons_cons x
theorem St.mask (h : St B w hp) (bs : List Bool) : St B w (maskL bs hp) := h.sub (maskL_sub bs hp)
/-- A call that knows of the chunks 'pr' alone. -/
theorem St.call (h : St B w (pr ++ rest)) (h' : St ⟨w, pr⟩ w' po) : St B w' (po ++ rest) := by
  have hr : ∀ d ∈ rest, ∀ k, d.foot k → k < w.heap.size ∧ (∀ c ∈ pr, ¬ c.foot k) := fun d hd k hk =>
    ⟨d.lives w k (h.all d (by simp [hd])) hk, fun c hc hck => (List.pairwise_append.1 h.apart).2.2 c hc d hd k hck hk⟩
  refine ⟨h'.os.trans h.os, h'.tape.trans h.tape, h'.output.trans h.output, Nat.le_trans h.size h'.size, fun c hc => ?_, ?_, fun c hc k hk => ?_, fun k hk hn => ?_, Nat.le_trans h.drawn h'.drawn⟩
  · rcases List.mem_append.1 hc with hc | hc
    · exact h'.all c hc
    · exact c.loc w w' (fun k hk => h'.rest k (hr c hc k hk).1 (hr c hc k hk).2) (h.all c (by simp [hc]))
  · refine List.pairwise_append.2 ⟨h'.apart, (List.pairwise_append.1 h.apart).2.1, fun c hc d hd k hk hk' => ?_⟩
    have := hr d hd k hk'
    rcases h'.new c hc k hk with ⟨e, he, hek⟩ | hge
    · exact this.2 e he hek
    · have h1 := this.1
      have h2 : w.heap.size ≤ k := hge
      omega
  · rcases List.mem_append.1 hc with hc | hc
    · rcases h'.new c hc k hk with ⟨e, he, hek⟩ | hge
      · exact h.new e (by simp [he]) k hek
      · exact .inr (Nat.le_trans h.size hge)
    · exact h.new c (by simp [hc]) k hk
  · by_cases hf : ∃ c ∈ pr, c.foot k
    · obtain ⟨c, hc, hck⟩ := hf
      rcases h.new c (by simp [hc]) k hck with ⟨d, hd, hdk⟩ | hge
      · exact absurd hdk (hn d hd)
      · omega
    · have hf' : ∀ c ∈ pr, ¬ c.foot k := fun c hc hck => hf ⟨c, hc, hck⟩
      exact (h'.rest k (Nat.lt_of_lt_of_le hk h.size) hf').trans (h.rest k hk hn)
theorem St.call0 (h : St B w hp) (h' : St ⟨w, []⟩ w' po) : St B w' (po ++ hp) := St.call (pr := []) h h'
/-- One chunk is written to, in its own blocks. -/
theorem St.write (h : St B w (c :: rest)) (hos : w'.os = w.os) (ht : w'.tape = w.tape) (ho : w'.output = w.output) (hsz : w'.heap.size = w.heap.size)
    (hb : ∀ k, ¬ c.foot k → w'.heap[k]? = w.heap[k]?) (hd : d.holds w') (hf : ∀ k, d.foot k → c.foot k) (hdr : w.drawn ≤ w'.drawn := by exact Nat.le_refl _) : St B w' (d :: rest) := by
  refine St.call (pr := [c]) h (po := [d]) ⟨hos, ht, ho, by simp [hsz], by simpa using hd, by simp [Apart], fun e he k hk => ?_, fun k _ hk => hb k (hk c (by simp)), hdr⟩
  simp at he
  subst he
  exact .inl ⟨c, by simp, hf k hk⟩
theorem setCell_size (w : World) (a : Addr) (v : Value) : (w.setCell a v).heap.size = w.heap.size := by simp [World.setCell]
theorem St.store {b T o : Nat} {cs : List Value} (h : St B w (cells b T cs :: rest)) (v : Value) : St B (w.setCell ⟨b, o, none⟩ v) (cells b T (cs.set o v) :: rest) := by
  have hc := h.at_ 0 rfl
  refine h.write rfl rfl rfl (setCell_size _ _ _) (fun k hk => RowKit.Below.heap_setCell _ _ _ _ hk) ?_ (fun k hk => hk)
  simp only [cells] at hc ⊢
  simp [World.setCell, Array.getElem?_modify, hc]
theorem St.alloc (h : St B w hp) (T : Nat) (cs : List Value) : St B (w.alloc (.cells cs.toArray T)) (cells w.heap.size T cs :: hp) := by
  refine St.call0 h (po := [cells w.heap.size T cs]) ⟨rfl, rfl, rfl, by simp, ?_, by simp [Apart], fun e he k hk => ?_, fun k hk _ => RowKit.Below.heap_alloc _ _ _ hk, Nat.le_refl _⟩
  · simp only [List.mem_singleton, forall_eq, cells]
    exact heap_alloc_new w _
  · simp at he
    subst he
    exact .inr (Nat.le_of_eq hk.symm)
/-- A chunk of the call's own may be forgotten. -/
theorem St.drop1 (h : St B w (c :: hp)) : St B w hp := h.sub (List.sublist_cons_self _ _)
theorem St.cell {b T o : Nat} {cs : List Value} {v : Value} (h : St B w hp) (i : Nat) (hi : hp[i]? = some (cells b T cs)) (ho : cs[o]? = some v) : w.cell? ⟨b, o, none⟩ = some v := by
  have hc := h.at_ i hi
  simp only [cells] at hc
  simp [World.cell?, hc, ho]
theorem St.frozen {b T o : Nat} {cs : List Value} (h : St B w hp) (i : Nat) (hi : hp[i]? = some (cells b T cs)) : w.frozen? ⟨b, o, none⟩ = false := by
  have hc := h.at_ i hi
  simp only [cells] at hc
  simp [World.frozen?, hc]
end

/-! ### The walk's goal: in every frame and world that is so -/
def S (n : Nat) (l : Fr) (B : Base) (hp : List Chunk) (G : Act → World → Prop) : Prop := ∀ a w, Has a n l → St B w hp → G a w

section
variable {P : Program} {n : Nat} {l : Fr} {B : Base} {hp : List Chunk} {Q : Exit → Act → World → Prop} {G K : Act → World → Prop} {x y c : Code}
theorem S.sub {l' : Fr} (h : S n l' B hp G) (hs : Sub l' l) : S n l B hp G := fun a w hA hS => h a w (hA.sub hs) hS
theorem S.heap {hp' : List Chunk} (h : S n l B hp' G) (hs : ∀ w, St B w hp → St B w hp') : S n l B hp G := fun a w hA hS => h a w hA (hs w hS)
theorem S.front {ch : Chunk} (i : Nat) (hi : hp[i]? = some ch) (h : S n l B (ch :: hp.eraseIdx i) G) : S n l B hp G := h.heap fun _ hS => hS.front i hi
theorem c_seq (h : S n l B hp (Code.wp P x (Exit.then (Code.wp P y Q) Q))) : S n l B hp (Code.wp P (.seq x y) Q) := fun a w hA hS => wp_seq (h a w hA hS)
theorem c_block {id : Nat} (h : S n l B hp (Code.wp P x (Exit.inBlock id Q))) : S n l B hp (Code.wp P (.block id x) Q) := fun a w hA hS => wp_block (h a w hA hS)
theorem c_skip (h : S n l B hp (Q .normal)) : S n l B hp (Code.wp P .skip Q) := fun a w hA hS => wp_skip (h a w hA hS)
theorem c_ret (h : S n l B hp (Q .ret)) : S n l B hp (Code.wp P .ret Q) := fun a w hA hS => wp_ret (h a w hA hS)
theorem c_exit {id : Nat} (h : S n l B hp (Q (.exit id))) : S n l B hp (Code.wp P (.exit id) Q) := fun a w hA hS => wp_exit (h a w hA hS)
theorem c_cond {o : Operand} {p : Prop} [Decidable p] (hc : ev l o = some (.bool (decide p))) (ht : p → S n l B hp (Code.wp P x Q)) (hf : ¬ p → S n l B hp (Code.wp P y Q)) :
    S n l B hp (Code.wp P (.cond o x y) Q) := fun a w hA hS => by
  refine wp_cond_split (hA.eval hc) (fun h => ht (of_decide_eq_true h) a w hA hS) (fun h => hf (of_decide_eq_false h) a w hA hS)
theorem c_condb {o : Operand} {b : Bool} (hc : ev l o = some (.bool b)) (ht : b = true → S n l B hp (Code.wp P x Q)) (hf : b = false → S n l B hp (Code.wp P y Q)) :
    S n l B hp (Code.wp P (.cond o x y) Q) := fun a w hA hS => by
  refine wp_cond_split (hA.eval hc) (fun h => ht h a w hA hS) (fun h => hf h a w hA hS)
theorem c_true {o : Operand} {b : Bool} (hc : ev l o = some (.bool b)) (hb : b = true) (h : S n l B hp (Code.wp P x Q)) : S n l B hp (Code.wp P (.cond o x y) Q) :=
  fun a w hA hS => wp_cond_true ((hA.eval hc).trans (by rw [hb])) (h a w hA hS)
theorem c_false {o : Operand} {b : Bool} (hc : ev l o = some (.bool b)) (hb : b = false) (h : S n l B hp (Code.wp P y Q)) : S n l B hp (Code.wp P (.cond o x y) Q) :=
  fun a w hA hS => wp_cond_false ((hA.eval hc).trans (by rw [hb])) (h a w hA hS)
/- exits -/
theorem x_then (h : S n l B hp K) : S n l B hp (Exit.then K Q .normal) := h
theorem x_then_ret (h : S n l B hp (Q .ret)) : S n l B hp (Exit.then K Q .ret) := h
theorem x_then_exit {id : Nat} (h : S n l B hp (Q (.exit id))) : S n l B hp (Exit.then K Q (.exit id)) := h
theorem x_block (id : Nat) (h : S n l B hp (Q .normal)) : S n l B hp (Exit.inBlock id Q .normal) := h
theorem x_block_ret (id : Nat) (h : S n l B hp (Q .ret)) : S n l B hp (Exit.inBlock id Q .ret) := h
theorem x_block_exit (id : Nat) (h : S n l B hp (Q .normal)) : S n l B hp (Exit.inBlock id Q (.exit id)) := fun a w hA hS => by
  simp only [Exit.inBlock, if_true]
  exact h a w hA hS
theorem x_block_past {id id' : Nat} (hne : id' ≠ id) (h : S n l B hp (Q (.exit id'))) : S n l B hp (Exit.inBlock id Q (.exit id')) := fun a w hA hS => by
  simp only [Exit.inBlock, if_neg hne]
  exact h a w hA hS

/-- A loop: X is what a round hands to the next. -/
def Again {X : Type} (n : Nat) (B : Base) (ok : X → Prop) (fr : X → Fr) (hh : X → List Chunk) (m : X → Nat) (x : X) (a : Act) (w : World) : Prop :=
  ∃ x', ok x' ∧ m x' < m x ∧ Has a n (fr x') ∧ St B w (hh x')
theorem c_again {X : Type} {ok : X → Prop} {fr : X → Fr} {hh : X → List Chunk} {m : X → Nat} {x : X} (x' : X) (h1 : ok x') (h2 : m x' < m x) (hs : Sub (fr x') l) (hh' : ∀ w, St B w hp → St B w (hh x')) :
    S n l B hp (Again n B ok fr hh m x) := fun _ w hA hS => ⟨x', h1, h2, hA.sub hs, hh' w hS⟩
/-- Where several ways meet again. -/
def Joined {X : Type} (n : Nat) (B : Base) (ok : X → Prop) (fr : X → Fr) (hh : X → List Chunk) (a : Act) (w : World) : Prop := ∃ x, ok x ∧ Has a n (fr x) ∧ St B w (hh x)
theorem c_join {X : Type} (ok : X → Prop) (fr : X → Fr) (hh : X → List Chunk) (hx : S n l B hp (Code.wp P x (Exit.then (Joined n B ok fr hh) Q))) (hy : ∀ z, ok z → S n (fr z) B (hh z) (Code.wp P y Q)) : S n l B hp (Code.wp P (.seq x y) Q) := fun a w hA hS =>
  wp_seq (wp_mono (hx a w hA hS) fun e a' w' hq => by
    cases e with
    | normal => obtain ⟨z, hok, hA', hS'⟩ := hq; exact hy z hok a' w' hA' hS'
    | _ => exact hq)
theorem c_meet {X : Type} {ok : X → Prop} {fr : X → Fr} {hh : X → List Chunk} (x' : X) (h1 : ok x') (hs : Sub (fr x') l) (hh' : ∀ w, St B w hp → St B w (hh x')) : S n l B hp (Joined n B ok fr hh) := fun _ w hA hS => ⟨x', h1, hA.sub hs, hh' w hS⟩
theorem int_eq {k : IntKind} {i j : Int} (h : i = j) : Value.int k i = Value.int k j := by rw [h]
theorem c_loop {X : Type} (ok : X → Prop) (fr : X → Fr) (hh : X → List Chunk) (m : X → Nat) (x0 : X) (h0 : ok x0) (hfr : Sub (fr x0) l) (hhp : ∀ w, St B w hp → St B w (hh x0))
    (round : ∀ x, ok x → S n (fr x) B (hh x) (Code.wp P c (Exit.then (Again n B ok fr hh m x) Q))) : S n l B hp (Code.wp P (.loop c) Q) := fun a w hA hS => by
  let R : Act → World → Nat → Prop := fun a w k => ∃ x, ok x ∧ m x = k ∧ Has a n (fr x) ∧ St B w (hh x)
  refine wp_loop (fun a w => ∃ k, R a w k) (fun a w => leastOf (R a w)) ⟨m x0, x0, h0, rfl, hA.sub hfr, hhp w hS⟩ fun a w hI => ?_
  obtain ⟨x, hx, hm, hA, hS⟩ := (leastOf_spec hI).1
  refine wp_mono (round x hx a w hA hS) fun e a' w' hq => ?_
  cases e with
  | normal =>
    obtain ⟨x', hx', hlt, hA', hS'⟩ := hq
    have h1 : R a' w' (m x') := ⟨x', hx', rfl, hA', hS'⟩
    refine ⟨⟨_, h1⟩, ?_⟩
    have h2 := (leastOf_spec ⟨_, h1⟩).2 _ h1
    show leastOf (R a' w') < leastOf (R a w)
    omega
  | _ => exact hq
end
end Go.Proofs.Ytnckabgaichkkaa.Eng
