/-
Names, plain: a table is a list of numbers; -1: nothing.
-/
import Derived.Test.YtjjhlkjnjbagfaaTab
namespace Go.Proofs.Ytjjhlkjnjbagfaa
open Eng
/-- The first place of a number. -/
def fi (L : List Int) (n : Int) : Option Nat := L.findIdx? (fun x => decide (x = n))
theorem fi_some {L : List Int} {n : Int} {k : Nat} (hk : k < L.length) (h : L.getD k 0 = n) (hj : ∀ j, j < k → L.getD j 0 ≠ n) : fi L n = some k := by
  unfold fi
  rw [List.findIdx?_eq_some_iff_getElem]
  refine ⟨hk, ?_, fun j hjk => ?_⟩
  · have e : L.getD k 0 = L[k] := by simp [hk]
    rw [e] at h; simp [h]
  · have hl : j < L.length := by omega
    have e : L.getD j 0 = L[j] := by simp [hl]
    have := hj j hjk
    rw [e] at this; simp [this]
theorem fi_none {L : List Int} {n : Int} (hj : ∀ j, j < L.length → L.getD j 0 ≠ n) : fi L n = none := by
  unfold fi
  rw [List.findIdx?_eq_none_iff]
  intro x hx
  obtain ⟨j, hl, rfl⟩ := List.getElem_of_mem hx
  have e : L.getD j 0 = L[j] := by simp [hl]
  have := hj j hl
  rw [e] at this; simp [this]
theorem fi_inv {L : List Int} {n : Int} {k : Nat} (h : fi L n = some k) : k < L.length ∧ L.getD k 0 = n ∧ ∀ j, j < k → L.getD j 0 ≠ n := by
  unfold fi at h
  rw [List.findIdx?_eq_some_iff_getElem] at h
  obtain ⟨hk, h1, h2⟩ := h
  refine ⟨hk, ?_, fun j hj => ?_⟩
  · have e : L.getD k 0 = L[k] := by simp [hk]
    rw [e]; simpa using h1
  · have hl : j < L.length := by omega
    have e : L.getD j 0 = L[j] := by simp [hl]
    rw [e]; simpa using h2 j hj
theorem fi_no {L : List Int} {n : Int} (h : fi L n = none) : ∀ j, j < L.length → L.getD j 0 ≠ n := by
  intro j hl
  unfold fi at h
  rw [List.findIdx?_eq_none_iff] at h
  have e : L.getD j 0 = L[j] := by simp [hl]
  rw [e]; simpa using h L[j] (List.getElem_mem hl)
/-- What a name means; -1: nothing. -/
def gt (L : List Int) (i : Int) : Int := if 0 ≤ i ∧ i < L.length then L.getD i.toNat 0 else -1
/-- With a number that has a name; and that. -/
def addL (L : List Int) (n : Int) : Option (List Int × Nat) :=
  if n < 0 ∨ 1023 < n ∨ (fi L n).isSome = true then none else
  match fi L (-1) with
  | some i => some (L.set i n, i)
  | none => if L.length = 512 then none else some (L ++ [n], L.length)
def drL (L : List Int) (i : Int) : Option (List Int) := if gt L i < 0 then none else some (L.set i.toNat (-1))
/-- Tables as they are made. -/
structure Nm (L : List Int) : Prop where
  v : ∀ j, j < L.length → -1 ≤ L.getD j 0 ∧ L.getD j 0 ≤ 1023
theorem nm_nil : Nm [] := ⟨fun j h => by simp at h⟩
theorem getD_set (L : List Int) (i j : Nat) (x : Int) (hi : i < L.length) : (L.set i x).getD j 0 = if j = i then x else L.getD j 0 := by
  simp only [List.getD_eq_getElem?_getD, List.getElem?_set]
  by_cases h : i = j
  · subst h; simp [hi]
  · rw [if_neg h, if_neg (fun e => h e.symm)]
theorem Nm.set {L : List Int} (h : Nm L) {i : Nat} (hi : i < L.length) {x : Int} (hx : -1 ≤ x ∧ x ≤ 1023) : Nm (L.set i x) := ⟨fun j hj => by
  rw [List.length_set] at hj
  rw [getD_set L i j x hi]
  split
  · exact hx
  · exact h.v j hj⟩
theorem Nm.app {L : List Int} (h : Nm L) {x : Int} (hx : -1 ≤ x ∧ x ≤ 1023) : Nm (L ++ [x]) := ⟨fun j hj => by
  by_cases hl : j < L.length
  · have e : (L ++ [x]).getD j 0 = L.getD j 0 := by simp [List.getElem?_append_left hl]
    rw [e]; exact h.v j hl
  · have e : (L ++ [x]).getD j 0 = x := by
      have : j = L.length := by simp at hj; omega
      subst this; simp
    rw [e]; exact hx⟩
theorem Nm.add {L L' : List Int} {n : Int} {k : Nat} (h : Nm L) (ha : addL L n = some (L', k)) : Nm L' := by
  unfold addL at ha
  split at ha
  · cases ha
  · rename_i hn
    have hx : -1 ≤ n ∧ n ≤ 1023 := by omega
    split at ha
    · rename_i i hi
      cases ha
      exact h.set (fi_inv hi).1 hx
    · split at ha
      · cases ha
      · cases ha
        exact h.app hx
theorem Nm.dr {L L' : List Int} {i : Int} (h : Nm L) (ha : drL L i = some L') : Nm L' := by
  unfold drL at ha
  split at ha
  · cases ha
  · rename_i hg
    cases ha
    have hi : i.toNat < L.length := by
      unfold gt at hg
      split at hg
      · omega
      · omega
    exact h.set hi (by omega)
/-- The names, of the first n, that mean something. -/
def nmN (L : List Int) : Nat → List Int
  | 0 => []
  | n + 1 => if L.getD n 0 = -1 then nmN L n else nmN L n ++ [(n : Int)]
theorem nmN_zero (L : List Int) : nmN L 0 = [] := rfl
theorem nmN_no {L : List Int} {n : Nat} (h : L.getD n 0 = -1) : nmN L (n + 1) = nmN L n := by simp only [nmN]; rw [if_pos h]
theorem nmN_yes {L : List Int} {n : Nat} (h : L.getD n 0 ≠ -1) : nmN L (n + 1) = nmN L n ++ [(n : Int)] := by simp only [nmN]; rw [if_neg h]
theorem nmN_le (L : List Int) : ∀ n, (nmN L n).length ≤ n
  | 0 => Nat.le_refl _
  | n + 1 => by
    have := nmN_le L n
    simp only [nmN]
    split
    · omega
    · simp; omega
theorem gt_in {L : List Int} {i : Int} (h : 0 ≤ i ∧ i < L.length) : gt L i = L.getD i.toNat 0 := by unfold gt; rw [if_pos h]
theorem gt_out {L : List Int} {i : Int} (h : ¬ (0 ≤ i ∧ i < L.length)) : gt L i = -1 := by unfold gt; rw [if_neg h]
theorem dr_yes {L : List Int} {i : Int} (h : 0 ≤ gt L i) : drL L i = some (L.set i.toNat (-1)) ∧ 0 ≤ i ∧ i < L.length ∧ L.getD i.toNat 0 = gt L i := by
  have hi : 0 ≤ i ∧ i < L.length := Classical.byContradiction fun hn => by rw [gt_out hn] at h; omega
  refine ⟨?_, hi.1, hi.2, (gt_in hi).symm⟩
  unfold drL; rw [if_neg (by omega)]
theorem dr_no {L : List Int} {i : Int} (h : gt L i < 0) : drL L i = none := by unfold drL; rw [if_pos h]
theorem add_bad {L : List Int} {n : Int} (h : n < 0 ∨ 1023 < n ∨ (fi L n).isSome = true) : addL L n = none := by unfold addL; rw [if_pos h]
theorem add_hole {L : List Int} {n : Int} {i : Nat} (h : ¬ (n < 0 ∨ 1023 < n ∨ (fi L n).isSome = true)) (hi : fi L (-1) = some i) : addL L n = some (L.set i n, i) := by unfold addL; rw [if_neg h, hi]
theorem add_full {L : List Int} {n : Int} (h : ¬ (n < 0 ∨ 1023 < n ∨ (fi L n).isSome = true)) (hi : fi L (-1) = none) (hl : L.length = 512) : addL L n = none := by unfold addL; rw [if_neg h, hi]; simp [hl]
theorem add_end {L : List Int} {n : Int} (h : ¬ (n < 0 ∨ 1023 < n ∨ (fi L n).isSome = true)) (hi : fi L (-1) = none) (hl : L.length ≠ 512) : addL L n = some (L ++ [n], L.length) := by unfold addL; rw [if_neg h, hi]; simp [hl]
theorem add_len {L L' : List Int} {n : Int} {k : Nat} (h : addL L n = some (L', k)) (hl : L.length ≤ 512) : L'.length ≤ 512 ∧ L'.length ≤ L.length + 1 ∧ k < L'.length := by
  unfold addL at h
  split at h
  · cases h
  · split at h
    · rename_i i hi
      cases h
      have := (fi_inv hi).1
      simp; omega
    · split at h
      · cases h
      · cases h
        simp; omega
theorem dr_len {L L' : List Int} {i : Int} (h : drL L i = some L') : L'.length = L.length := by
  unfold drL at h
  split at h
  · cases h
  · cases h; simp
/-- Behind the holes: what stands there is the first that is below nothing. -/
theorem hole_neg {L : List Int} (h : Nm L) {j : Nat} (hj : j < L.length) : L.getD j 0 < 0 ↔ L.getD j 0 = -1 := by
  have := h.v j hj
  omega
end Go.Proofs.Ytjjhlkjnjbagfaa
