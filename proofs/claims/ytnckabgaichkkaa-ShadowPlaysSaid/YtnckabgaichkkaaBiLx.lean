/-
Bind: pairs in order.
-/
import Derived.Test.YtnckabgaichkkaaBx2
import Derived.Test.YtnckabgaichkkaaBiSK
namespace Go.Proofs.Ytnckabgaichkkaa
set_option linter.unusedVariables false
set_option linter.unusedSimpArgs false
open Eng Go.Sort
theorem cfL_lt {x y : Int × Int} : cfL x y < 0 ↔ lexR x y := by
  unfold cfL cmpI lexR
  by_cases h1 : x.1 < y.1
  · simp [h1]
  · by_cases h2 : y.1 < x.1
    · simp [h1, h2]; omega
    · simp [h1, h2]
      by_cases h3 : x.2 < y.2
      · simp [h3]; omega
      · by_cases h4 : y.2 < x.2
        · simp [h3, h4]
        · simp [h3, h4]
instance lexDec (x y : Int × Int) : Decidable (lexR x y) := by unfold lexR; infer_instance
theorem ltL (x y : Int × Int) : ltOf cfL x y = decide (lexR x y) := by
  unfold ltOf
  rw [decide_eq_decide]
  exact cfL_lt
theorem lexR_trans {x y z : Int × Int} (h1 : lexR x y) (h2 : lexR y z) : lexR x z := by unfold lexR at *; omega
theorem lexR_ntrans {x y z : Int × Int} (h1 : ¬ lexR x y) (h2 : ¬ lexR y z) : ¬ lexR x z := by unfold lexR at *; omega
theorem lexR_irr (x : Int × Int) : ¬ lexR x x := by unfold lexR; omega
theorem lexR_eq {x y : Int × Int} (h1 : ¬ lexR x y) (h2 : ¬ lexR y x) : x = y := by
  unfold lexR at *
  exact Prod.ext (by omega) (by omega)
theorem swoL : SWO (ltOf cfL) where
  irrefl x := by rw [ltL]; exact decide_eq_false (lexR_irr x)
  trans x y z h1 h2 := by rw [ltL, decide_eq_true_eq] at *; exact lexR_trans h1 h2
  ntrans x y z h1 h2 := by rw [ltL, decide_eq_false_iff_not] at *; exact lexR_ntrans h1 h2
theorem totL (x y : Int × Int) (h1 : ltOf cfL x y = false) (h2 : ltOf cfL y x = false) : x = y := by
  rw [ltL, decide_eq_false_iff_not] at *
  exact lexR_eq h1 h2
def lsort (L : List (Int × Int)) : List (Int × Int) := L.mergeSort fun x y => !ltOf cfL y x
theorem lsort_len (L : List (Int × Int)) : (lsort L).length = L.length := List.length_mergeSort L
/-- What is told in order is one list. -/
theorem lsort_eq {out : List (Int × Int)} {g : Nat → Bool} {n : Nat} (hN : out.Nodup) (h : ∀ x, x ∈ out ↔ x ∈ prs g n) : lsort out = prs g n := by
  have hp : out.Perm (prs g n) := perm_of_nodup hN (prs_nodup g n) h
  have hp2 : (lsort out).Perm (prs g n) := (List.mergeSort_perm _ _).trans hp
  have h1 : (lsort out).Pairwise (fun x y => ¬ lexR y x) := by
    have := List.pairwise_mergeSort (le := fun x y => !ltOf cfL y x) (fun a b c h1 h2 => by
      rw [ltL, Bool.not_eq_true', decide_eq_false_iff_not] at *
      exact lexR_ntrans h2 h1) (fun a b => by
      rw [ltL, ltL]
      by_cases h : lexR b a
      · rw [decide_eq_true h, decide_eq_false (lexR_asymm _ _ h)]; rfl
      · rw [decide_eq_false h]; rfl) out
    exact this.imp fun {a b} h => by
      rw [ltL, Bool.not_eq_true', decide_eq_false_iff_not] at h
      exact h
  have hN2 : (lsort out).Nodup := hp2.nodup_iff.2 (prs_nodup g n)
  have h2 : (lsort out).Pairwise lexR := by
    have : (lsort out).Pairwise (fun a b => ¬ lexR b a ∧ a ≠ b) := h1.and hN2
    exact this.imp fun {a b} h => Classical.byContradiction fun e => h.2 (lexR_eq e h.1)
  exact eq_pw lexR_asymm hp2 h2 (prs_sorted g n)
end Go.Proofs.Ytnckabgaichkkaa
