/-
The engine, fifth part: contracts said anew; what a law found in memory; arrays as functions.
-/
import Derived.Test.YtnckabgaichkkaaEng4
namespace Go.Proofs.Ytnckabgaichkkaa.Eng
set_option linter.unusedVariables false
set_option linter.unusedSimpArgs false
open Go

/-- All that was in memory when a law was called. -/
def old (W : World) : Chunk where
  foot := fun k => k < W.heap.size
  holds := fun w => W.heap.size ≤ w.heap.size ∧ ∀ k, k < W.heap.size → w.heap[k]? = W.heap[k]?
  loc := fun w w' h hw => by
    have hk : ∀ k, k < W.heap.size → w'.heap[k]? = W.heap[k]? := fun k hk => (h k hk).trans (hw.2 k hk)
    refine ⟨?_, hk⟩
    rcases Nat.lt_or_ge w'.heap.size W.heap.size with hlt | hge
    · have := hk _ hlt
      rw [Array.getElem?_eq_none (Nat.le_refl _), Array.getElem?_eq_getElem hlt] at this
      cases this
    · exact hge
  lives := fun w k hw hk => Nat.lt_of_lt_of_le hk hw.1
theorem old_pre (W : World) : Pre W [old W] := ⟨by simp [old], by simp [Apart]⟩
theorem old_rds {hp : List Chunk} {W : World} {A : Option Addr} {cs : List Value} (h : Rd W A cs) (i : Nat) (hi : nth hp i = some (old W)) : Rds hp A cs := fun w hw j u hu => by
  obtain ⟨p, hp', hc⟩ := h j u hu
  have ho : (old W).holds w := hw.all _ (List.mem_of_getElem? (by rw [← nth_eq]; exact hi))
  refine ⟨p, hp', ?_⟩
  rw [← hc]
  exact World.cell?_of_block (ho.2 _ (World.block_lt_of_cell? W _ hc))

theorem St.base {W w : World} {hp hp' po : List Chunk} (h : St ⟨W, hp⟩ w po) (hf : ∀ k, (∃ d ∈ hp, d.foot k) ↔ (∃ d ∈ hp', d.foot k)) : St ⟨W, hp'⟩ w po :=
  ⟨h.os, h.tape, h.output, h.size, h.all, h.apart, fun c hc k hk => (h.new c hc k hk).imp (hf k).1 id, fun k hk hn => h.rest k hk fun d hd hdk => by
    obtain ⟨e, he, hek⟩ := (hf k).1 ⟨d, hd, hdk⟩
    exact hn e he hek, h.drawn⟩
section
variable {P : Program} {f : FuncId} {vs : List Value} {X X' Y : Type} {ok : X → Prop} {v : X → Value} {po : X → List Chunk} {pr : List Chunk} {ok' : X' → Prop} {v' : X' → Value} {po' : X' → List Chunk}
theorem Does.lift {okp : Y → Prop} {prs : Y → List Chunk} {Z : Type} {oky : Y → Z → Prop} {vy : Y → Z → Value} {poy : Y → Z → List Chunk} (h : ∀ y, okp y → Does P f vs (prs y) (oky y) (vy y) (poy y))
    (hpre : ∀ w, Pre w pr → ∃ y, okp y ∧ Pre w (prs y) ∧ ∀ k, (∃ d ∈ prs y, d.foot k) ↔ (∃ d ∈ pr, d.foot k))
    (hpost : ∀ y, okp y → ∀ x, oky y x → ∃ x', ok' x' ∧ vy y x = v' x' ∧ ∀ B w, St B w (poy y x) → St B w (po' x')) : Does P f vs pr ok' v' po' := by
  intro w hw
  obtain ⟨y, hy, hw', hf⟩ := hpre w hw
  refine (h y hy w hw').mono fun e w' ⟨x, hok, he, hS⟩ => ?_
  obtain ⟨x', hok', hv, hS'⟩ := hpost y hy x hok
  exact ⟨x', hok', by rw [he, hv], (hS' _ _ hS).base hf⟩
theorem Does.post (h : Does P f vs pr ok v po) (hpost : ∀ x, ok x → ∃ x', ok' x' ∧ v x = v' x' ∧ ∀ B w, St B w (po x) → St B w (po' x')) : Does P f vs pr ok' v' po' :=
  Does.lift (Y := Unit) (okp := fun _ => True) (prs := fun _ => pr) (oky := fun _ => ok) (vy := fun _ => v) (poy := fun _ => po) (fun _ _ => h) (fun w hw => ⟨(), trivial, hw, fun _ => Iff.rfl⟩) (fun _ _ => hpost)
end

/-- Block b holds one of several things. -/
def some_ {Y : Type} (b : Nat) (ok : Y → Prop) (T : Nat) (cs : Y → List Value) : Chunk where
  foot := fun k => k = b
  holds := fun w => ∃ y, ok y ∧ (cells b T (cs y)).holds w
  loc := fun w w' h ⟨y, hy, hw⟩ => ⟨y, hy, (cells b T (cs y)).loc w w' h hw⟩
  lives := fun w k ⟨y, _, hw⟩ hk => (cells b T (cs y)).lives w k hw hk
theorem St.hide {B : Base} {w : World} {hp : List Chunk} {Y : Type} {b T : Nat} {ok : Y → Prop} {cs : Y → List Value} {c : List Value} (h : St B w (cells b T c :: hp)) (y : Y) (hy : ok y) (hc : cs y = c) : St B w (some_ b ok T cs :: hp) :=
  h.turn (fun _ hk => hk) ⟨y, hy, by rw [hc]; exact h.at_ 0 rfl⟩
section
variable {P : Program} {f : FuncId} {vs : List Value} {X : Type} {ok' : X → Prop} {v' : X → Value} {po' : X → List Chunk} {Y : Type} {b T : Nat} {okp : Y → Prop} {cs : Y → List Value} {fr : List Chunk}
theorem Does.open_ {Z : Type} {oky : Y → Z → Prop} {vy : Y → Z → Value} {poy : Y → Z → List Chunk} (h : ∀ y, okp y → Does P f vs (cells b T (cs y) :: fr) (oky y) (vy y) (poy y))
    (hpost : ∀ y, okp y → ∀ x, oky y x → ∃ x', ok' x' ∧ vy y x = v' x' ∧ ∀ B w, St B w (poy y x) → St B w (po' x')) : Does P f vs (some_ b okp T cs :: fr) ok' v' po' :=
  Does.lift h (fun w hw => by
    obtain ⟨y, hy, hc⟩ := hw.all _ List.mem_cons_self
    refine ⟨y, hy, ⟨fun c hc' => ?_, ?_⟩, fun k => ?_⟩
    · rcases List.mem_cons.1 hc' with rfl | hm
      · exact hc
      · exact hw.all c (List.mem_cons_of_mem _ hm)
    · obtain ⟨h1, h2⟩ := List.pairwise_cons.1 hw.apart
      exact List.pairwise_cons.2 ⟨h1, h2⟩
    · simp only [List.mem_cons, exists_eq_or_imp]; rfl) hpost
end

/-! ### Arrays -/
def arr (n : Nat) (f : Nat → Value) : List Value := (List.range n).map f
def upd {α : Type} (f : Nat → α) (i : Nat) (v : α) : Nat → α := fun j => if j = i then v else f j
@[simp] theorem arr_length (n : Nat) (f : Nat → Value) : (arr n f).length = n := by simp [arr]
theorem arr_get {n : Nat} {f : Nat → Value} {i : Nat} (h : i < n) : (arr n f)[i]? = some (f i) := by simp [arr, h]
theorem arr_getl {n : Nat} {f : Nat → Value} {t : List Value} {i : Nat} (h : i < n) : (arr n f ++ t)[i]? = some (f i) := by rw [List.getElem?_append_left (by simpa using h), arr_get h]
theorem arr_getr {n : Nat} {f : Nat → Value} {t : List Value} {i : Nat} (h : n ≤ i) : (arr n f ++ t)[i]? = t[i - n]? := by rw [List.getElem?_append_right (by simpa using h), arr_length]
theorem arr_set (n : Nat) (f : Nat → Value) (i : Nat) (v : Value) : (arr n f).set i v = arr n (upd f i v) := by
  apply List.ext_getElem?
  intro j
  rw [List.getElem?_set]
  by_cases hj : j < n
  · rw [arr_get hj, arr_get hj]
    by_cases e : i = j
    · subst e; simp [upd, hj]
    · simp [e, upd, Ne.symm e]
  · rw [List.getElem?_eq_none (by simp; omega), List.getElem?_eq_none (by simp; omega)]
    by_cases e : i = j <;> simp [e]; omega
theorem arr_setl {n : Nat} {f : Nat → Value} {t : List Value} {i : Nat} (h : i < n) (v : Value) : (arr n f ++ t).set i v = arr n (upd f i v) ++ t := by rw [List.set_append_left _ _ (by simpa using h), arr_set]
theorem arr_setr {n : Nat} {f : Nat → Value} {t : List Value} {i : Nat} (h : n ≤ i) (v : Value) : (arr n f ++ t).set i v = arr n f ++ t.set (i - n) v := by rw [List.set_append_right _ _ (by simpa using h), arr_length]
theorem arr_congr {n : Nat} {f g : Nat → Value} (h : ∀ i, i < n → f i = g i) : arr n f = arr n g := by
  unfold arr
  exact List.map_congr_left fun i hi => h i (List.mem_range.1 hi)
theorem sl_eq {A : Option Addr} {k k' c : Nat} (h : k = k') : some (Value.slice A k c) = some (.slice A k' c) := by rw [h]
theorem sli_eq {kd : IntKind} {i j : Int} (h : i = j) : some (Value.int kd i) = some (.int kd j) := by rw [h]
end Go.Proofs.Ytnckabgaichkkaa.Eng
