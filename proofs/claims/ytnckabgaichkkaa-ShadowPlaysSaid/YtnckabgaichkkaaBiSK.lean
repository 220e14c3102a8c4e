/-
A sort by a function, at elements of two cells, told in the engine's words.
-/
import Derived.Test.YtnckabgaichkkaaEngC
import Derived.Shelf.SlSortCmp.WholeK
namespace Go.Proofs.Ytnckabgaichkkaa
set_option linter.unusedVariables false
set_option linter.unusedSimpArgs false
open Eng Go.Sort
theorem put_get2 (o : Nat) (d : Array Value) (cur : Array Value) (k : Nat) : (putCells id o d cur)[k]? = cur[k]?.map fun x => if o ≤ k ∧ k < o + d.size then d[k - o]! else x := by
  simp [putCells]
theorem flat2 {α : Type} [Inhabited α] (enc : α → List Value) (hk : ∀ x, (enc x).length = 2) (L : List α) {t : Nat} (h : t < L.length * 2) : (L.flatMap enc)[t]? = some ((flatK enc 2 L.toArray)[t]!) := by
  have h2 : t / 2 < L.length := by omega
  have h3 := flat_get enc 2 hk L (t / 2) (t % 2) L[t / 2] (List.getElem?_eq_getElem h2) (Nat.mod_lt _ (by omega))
  rw [show t / 2 * 2 + t % 2 = t by omega] at h3
  rw [h3, get_flatK enc 2 L.toArray t (by simpa using h)]
  have e1 : L.toArray[t / 2]! = L[t / 2] := by simp [h2]
  rw [e1]
  have h4 : t % 2 < (enc L[t / 2]).length := by rw [hk]; exact Nat.mod_lt _ (by omega)
  rw [List.getElem?_eq_getElem h4, getElem!_pos (enc L[t / 2]) (t % 2) h4]
theorem sortK_c {P : Program} {α : Type} [Inhabited α] (enc : α → List Value) (hk : ∀ x, (enc x).length = 2) (T f : Nat) (fv : Value) (sF : List α → List α) (hlen : ∀ L, (sF L).length = L.length)
    (hsort : ∀ (w : World) (g o c : Nat) (L : List α), HoldsK enc 2 w g o L.toArray → g < w.heap.size → L.length < 4611686018427387904 → Calls P f #[.slice (some ⟨g, o, none⟩) L.length c, fv] w fun e w' => e = .returned (.tuple #[]) ∧ ∃ n os, w' = Go.Proofs.sortWorldK enc 2 w g o n (sF L).toArray os)
    (hnone : ∀ (w : World) (A : Option Addr) (c : Nat), Calls P f #[.slice A 0 c, fv] w fun e w' => e = .returned (.tuple #[]) ∧ w' = w)
    (L : List α) (A : Option Addr) (c : Nat) (hx : L.length ≤ 1000000) : Does P f [.slice A L.length c, fv] [own A c T 2 L.length (L.flatMap enc)] (fun _ : Unit => True) (fun _ => .tuple #[]) (fun _ => [own A c T 2 L.length ((sF L).flatMap enc)]) := by
  intro w hw
  have hown := hw.all _ List.mem_cons_self
  have hfl : ∀ M : List α, (M.flatMap enc).length = M.length * 2 := fun M => flat_len enc 2 hk M
  by_cases h0 : L.length = 0
  · have hn : L = [] := List.eq_nil_of_length_eq_zero h0
    subst hn
    refine (hnone w A c).mono ?_
    rintro e w' ⟨rfl, rfl⟩
    have e : sF [] = [] := List.eq_nil_of_length_eq_zero (by rw [hlen]; rfl)
    refine ⟨(), trivial, rfl, ?_⟩
    show St _ _ [own A c T 2 [].length ((sF []).flatMap enc)]
    rw [e]
    exact hw.st
  · rcases hown.2 with ⟨_, hn, _⟩ | ⟨g, o, cur, rfl, hg, hnc, hfit, hxs⟩
    · exact absurd hn h0
    · have hgs : g < w.heap.size := (Array.getElem?_eq_some_iff.1 hg).1
      have hget : ∀ j, j < L.length * 2 → cur[o + j]? = some ((flatK enc 2 L.toArray)[j]!) := fun j hj => by
        have := take_drop_get hxs (flat2 enc hk L hj)
        simpa using this
      have hH : HoldsK enc 2 w g o L.toArray := fun j hj => by
        have hj' : j < L.length * 2 := by simpa using hj
        refine ⟨?_, by simp [World.frozen?, hg]⟩
        rw [cell_of_row w g _ cur T (0, 0) hg]
        exact hget j hj'
      refine (hsort w g o c L hH hgs (by omega)).mono ?_
      rintro e w' ⟨rfl, m, os, rfl⟩
      refine ⟨(), trivial, rfl, ?_⟩
      have hheap : ∀ k, k < w.heap.size → (Go.Proofs.sortWorldK enc 2 w g o m (sF L).toArray os).heap[k]? = (w.heap.modify g (onCells (putCells id o (flatK enc 2 (sF L).toArray))))[k]? := fun k hk => by
        unfold Go.Proofs.sortWorldK putRowK
        rw [heap_grow_old _ _ (by simpa [putRow, mapBlock, Sort.ahead] using hk)]
        rfl
      have hsz : (flatK enc 2 (sF L).toArray).size = L.length * 2 := by simp [hlen]
      refine ⟨rfl, rfl, rfl, ?_, ?_, by simp [Apart], ?_, ?_, Nat.le_add_right _ _⟩
      · simp [Go.Proofs.sortWorldK, putRowK, putRow, mapBlock, Sort.ahead]
      · simp only [List.mem_singleton, forall_eq]
        refine ⟨by rw [hfl, hlen], .inr ⟨g, o, putCells id o (flatK enc 2 (sF L).toArray) cur, rfl, ?_, hnc, by simpa [putCells] using hfit, ?_⟩⟩
        · rw [hheap g hgs]
          simp [Array.getElem?_modify, hg, onCells]
        · apply List.ext_getElem?
          intro j
          rw [List.getElem?_take, List.getElem?_drop, Array.getElem?_toList, put_get2]
          by_cases hj : j < L.length * 2
          · rw [if_pos (by omega), hget j hj]
            have hj2 : j < (sF L).length * 2 := by rw [hlen]; exact hj
            rw [flat2 enc hk (sF L) hj2]
            simp [hsz, hj]
          · rw [if_neg (by omega)]
            have : ((sF L).flatMap enc).length ≤ j := by rw [hfl, hlen]; omega
            rw [List.getElem?_eq_none this]
      · intro ch hch k hk
        simp at hch
        subst hch
        exact .inl ⟨_, List.mem_singleton.2 rfl, hk⟩
      · intro k hk hno
        rw [hheap k hk, Array.getElem?_modify]
        have : g ≠ k := fun e => hno _ List.mem_cons_self ⟨_, rfl, e⟩
        rw [if_neg this]
end Go.Proofs.Ytnckabgaichkkaa
