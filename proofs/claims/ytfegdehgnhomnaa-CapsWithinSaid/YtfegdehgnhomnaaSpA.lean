/-
Span, plain: all numbers of a set, rising.
-/
import Derived.Test.YtfegdehgnhomnaaSp5
namespace Go.Proofs.Ytfegdehgnhomnaa
set_option linter.unusedVariables false
set_option linter.unusedSimpArgs false
open Eng
/-- Of the first n numbers those of the set. -/
def al (s : Nat → Bool) : Nat → List Int
  | 0 => []
  | n + 1 => if s n = true then al s n ++ [(n : Int)] else al s n
theorem al_zero (s : Nat → Bool) : al s 0 = [] := rfl
theorem al_yes {s : Nat → Bool} {n : Nat} (h : s n = true) : al s (n + 1) = al s n ++ [(n : Int)] := by simp only [al]; rw [if_pos h]
theorem al_no {s : Nat → Bool} {n : Nat} (h : s n = false) : al s (n + 1) = al s n := by simp only [al]; rw [if_neg (by rw [h]; simp)]
theorem al_le (s : Nat → Bool) : ∀ n, (al s n).length ≤ n
  | 0 => Nat.le_refl _
  | n + 1 => by
    have := al_le s n
    simp only [al]
    split
    · simp; omega
    · omega
theorem al_mem (s : Nat → Bool) (x : Int) : ∀ n, x ∈ al s n ↔ 0 ≤ x ∧ x < n ∧ s x.toNat = true
  | 0 => by simp [al]; omega
  | n + 1 => by
    cases h : s n with
    | true =>
      rw [al_yes h, List.mem_append, al_mem s x n, List.mem_singleton]
      constructor
      · rintro (⟨a, b, c⟩ | rfl)
        · exact ⟨a, by omega, c⟩
        · exact ⟨by omega, by omega, by rw [Int.toNat_natCast]; exact h⟩
      · rintro ⟨a, b, c⟩
        by_cases e : x = n
        · exact .inr e
        · exact .inl ⟨a, by omega, c⟩
    | false =>
      rw [al_no h, al_mem s x n]
      constructor
      · rintro ⟨a, b, c⟩; exact ⟨a, by omega, c⟩
      · rintro ⟨a, b, c⟩
        have : x ≠ n := fun e => by subst e; rw [Int.toNat_natCast] at c; rw [h] at c; cases c
        exact ⟨a, by omega, c⟩
theorem al_sorted (s : Nat → Bool) : ∀ n, (al s n).Pairwise (· < ·)
  | 0 => List.Pairwise.nil
  | n + 1 => by
    cases h : s n with
    | true =>
      rw [al_yes h, List.pairwise_append]
      refine ⟨al_sorted s n, by simp, fun a ha b hb => ?_⟩
      rw [List.mem_singleton] at hb
      subst hb
      exact ((al_mem s a n).1 ha).2.1
    | false => rw [al_no h]; exact al_sorted s n
theorem rg_mem (f x : Int) : ∀ m, x ∈ rg f m ↔ f ≤ x ∧ x < f + m
  | 0 => by simp [rg]
  | m + 1 => by
    rw [rg_succ, List.mem_append, rg_mem f x m, List.mem_singleton]
    omega
theorem rg_sorted (f : Int) : ∀ m, (rg f m).Pairwise (· < ·)
  | 0 => List.Pairwise.nil
  | m + 1 => by
    rw [rg_succ, List.pairwise_append]
    refine ⟨rg_sorted f m, by simp, fun a ha b hb => ?_⟩
    rw [List.mem_singleton] at hb
    subst hb
    exact ((rg_mem f a m).1 ha).2
theorem nm_mem {R : List Rw} (h : Okr R) (x : Int) : ∀ k, k ≤ R.length → (x ∈ nm R k ↔ ∃ i, i < k ∧ (at' R i).1 ≤ x ∧ x < (at' R i).2)
  | 0, _ => by simp [nm]
  | k + 1, hk => by
    have hr := h.row (k := k) (by omega)
    rw [nm_succ, List.mem_append, nm_mem h x k (by omega), rg_mem]
    constructor
    · rintro (⟨i, a, b⟩ | hx)
      · exact ⟨i, by omega, b⟩
      · exact ⟨k, by omega, by omega, by omega⟩
    · rintro ⟨i, a, b, c⟩
      by_cases e : i = k
      · subst e; exact .inr ⟨b, by omega⟩
      · exact .inl ⟨i, by omega, b, c⟩
theorem nm_sorted {R : List Rw} (h : Okr R) : ∀ k, k ≤ R.length → (nm R k).Pairwise (· < ·)
  | 0, _ => List.Pairwise.nil
  | k + 1, hk => by
    rw [nm_succ, List.pairwise_append]
    refine ⟨nm_sorted h k (by omega), rg_sorted _ _, fun a ha b hb => ?_⟩
    obtain ⟨i, hi, h1, h2⟩ := (nm_mem h a k (by omega)).1 ha
    have h3 := (rg_mem _ _ _).1 hb
    have h4 := (sep_at h.s i (by omega)).2.2 k hi (by omega)
    omega
theorem ssort_ext : ∀ {l m : List Int}, l.Pairwise (· < ·) → m.Pairwise (· < ·) → (∀ x, x ∈ l ↔ x ∈ m) → l = m := by
  intro l
  induction l with
  | nil =>
    intro m _ _ h
    cases m with
    | nil => rfl
    | cons b m => exact absurd ((h b).2 List.mem_cons_self) (by simp)
  | cons a l ih =>
    intro m hl hm h
    cases m with
    | nil => exact absurd ((h a).1 List.mem_cons_self) (by simp)
    | cons b m =>
      obtain ⟨h1, h2⟩ := List.pairwise_cons.1 hl
      obtain ⟨g1, g2⟩ := List.pairwise_cons.1 hm
      have e : a = b := by
        rcases List.mem_cons.1 ((h a).1 List.mem_cons_self) with e | e
        · exact e
        · have := g1 a e
          rcases List.mem_cons.1 ((h b).2 List.mem_cons_self) with e2 | e2
          · exact e2.symm
          · have := h1 b e2; omega
      subst e
      congr 1
      refine ih h2 g2 fun x => ?_
      have := h x
      simp only [List.mem_cons] at this
      constructor
      · intro hx
        rcases this.1 (.inr hx) with e | e
        · subst e; exact absurd (h1 x hx) (by omega)
        · exact e
      · intro hx
        rcases this.2 (.inr hx) with e | e
        · subst e; exact absurd (g1 x hx) (by omega)
        · exact e
theorem nm_al (s : Nat → Bool) : nm (rws s) (rws s).length = al s 1024 := by
  refine ssort_ext (nm_sorted (rws_ok s) _ (Nat.le_refl _)) (al_sorted s _) fun x => ?_
  rw [nm_mem (rws_ok s) x _ (Nat.le_refl _), al_mem, ← has_iff, rws_has]
  unfold inS
  simp only [Bool.and_eq_true, decide_eq_true_eq]
  constructor
  · rintro ⟨⟨a, b⟩, c⟩; exact ⟨a, by omega, c⟩
  · rintro ⟨a, b, c⟩; exact ⟨⟨a, by omega⟩, c⟩
theorem len_al (s : Nat → Bool) : lenN (rws s) (rws s).length = ((al s 1024).length : Int) := by rw [← nm_al, nm_len (rws_ok s) _ (Nat.le_refl _)]
end Go.Proofs.Ytfegdehgnhomnaa
