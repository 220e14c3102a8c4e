/-
Bind: lists of numbers and of pairs that are told in order.
-/
import Derived.Test.YtnckabgaichkkaaBiSort
import Derived.Test.YtnckabgaichkkaaEngC
namespace Go.Proofs.Ytnckabgaichkkaa
set_option linter.unusedVariables false
set_option linter.unusedSimpArgs false
open Eng
def al (s : Nat → Bool) : Nat → List Int
  | 0 => []
  | n + 1 => if s n = true then al s n ++ [(n : Int)] else al s n
theorem al_zero (s : Nat → Bool) : al s 0 = [] := rfl
theorem al_yes {s : Nat → Bool} {n : Nat} (h : s n = true) : al s (n + 1) = al s n ++ [(n : Int)] := by simp only [al]; rw [if_pos h]
theorem al_no {s : Nat → Bool} {n : Nat} (h : s n = false) : al s (n + 1) = al s n := by simp only [al]; rw [if_neg (by rw [h]; simp)]
theorem al_le (s : Nat → Bool) : ∀ n, (al s n).length ≤ n
  | 0 => Nat.le_refl _
  | n + 1 => by
    have := al_le s n
    simp only [al]
    split
    · simp; omega
    · omega
theorem al_mem (s : Nat → Bool) (x : Int) : ∀ n, x ∈ al s n ↔ 0 ≤ x ∧ x < n ∧ s x.toNat = true
  | 0 => by simp [al]; omega
  | n + 1 => by
    cases h : s n with
    | true =>
      rw [al_yes h, List.mem_append, al_mem s x n, List.mem_singleton]
      constructor
      · rintro (⟨a, b, c⟩ | rfl)
        · exact ⟨a, by omega, c⟩
        · exact ⟨by omega, by omega, by rw [Int.toNat_natCast]; exact h⟩
      · rintro ⟨a, b, c⟩
        by_cases e : x = n
        · exact .inr e
        · exact .inl ⟨a, by omega, c⟩
    | false =>
      rw [al_no h, al_mem s x n]
      constructor
      · rintro ⟨a, b, c⟩; exact ⟨a, by omega, c⟩
      · rintro ⟨a, b, c⟩
        have : x ≠ n := fun e => by subst e; rw [Int.toNat_natCast] at c; rw [h] at c; cases c
        exact ⟨a, by omega, c⟩
theorem al_sorted (s : Nat → Bool) : ∀ n, (al s n).Pairwise (· < ·)
  | 0 => List.Pairwise.nil
  | n + 1 => by
    cases h : s n with
    | true =>
      rw [al_yes h, List.pairwise_append]
      refine ⟨al_sorted s n, by simp, fun a ha b hb => ?_⟩
      rw [List.mem_singleton] at hb
      subst hb
      exact ((al_mem s a n).1 ha).2.1
    | false => rw [al_no h]; exact al_sorted s n
/-- Two lists of the same things, both in order, are one. -/
theorem eq_pw {α : Type} {R : α → α → Prop} (hR : ∀ a b, R a b → ¬ R b a) : ∀ {l m : List α}, l.Perm m → l.Pairwise R → m.Pairwise R → l = m
  | [], m, h, _, _ => h.symm.eq_nil.symm
  | a :: l, [], h, _, _ => by have := h.length_eq; simp at this
  | a :: l, b :: m, h, hl, hm => by
    rw [List.pairwise_cons] at hl hm
    have hab : a = b := by
      have h1 : b ∈ a :: l := h.mem_iff.2 List.mem_cons_self
      have h2 : a ∈ b :: m := h.mem_iff.1 List.mem_cons_self
      rcases List.mem_cons.1 h1 with e | h1
      · exact e.symm
      · rcases List.mem_cons.1 h2 with e | h2
        · exact e
        · exact absurd (hm.1 a h2) (hR a b (hl.1 b h1))
    subst hab
    rw [eq_pw hR h.cons_inv hl.2 hm.2]
theorem al_nodup (s : Nat → Bool) (n : Nat) : (al s n).Nodup := (al_sorted s n).imp fun {a b} h e => by omega
theorem srt_al {out : List Int} {s : Nat → Bool} {n : Nat} (hN : out.Nodup) (h : ∀ x, x ∈ out ↔ x ∈ al s n) : srt out = al s n := by
  have hp : out.Perm (al s n) := perm_of_nodup hN (al_nodup s n) h
  have hp2 : (srt out).Perm (al s n) := (List.mergeSort_perm _ _).trans hp
  have h1 : (srt out).Pairwise (· ≤ ·) := by
    have := List.pairwise_mergeSort (le := fun x y : Int => decide (x ≤ y)) (fun a b c h1 h2 => by simp at *; omega) (fun a b => by simp; omega) out
    exact this.imp fun {a b} h => by simpa using h
  have hN2 : (srt out).Nodup := hp2.nodup_iff.2 (al_nodup s n)
  have h2 : (srt out).Pairwise (· < ·) := by
    have : (srt out).Pairwise (fun a b => a ≤ b ∧ a ≠ b) := h1.and hN2
    exact this.imp fun {a b} h => by omega
  exact eq_pw (R := (· < ·)) (fun a b h1 h2 => by omega) hp2 h2 (al_sorted s n)
theorem nodup_le {out : List Int} {n : Nat} (hN : out.Nodup) (h : ∀ x ∈ out, 0 ≤ x ∧ x < n) : out.length ≤ n := by
  have hp : out.Perm (al (fun k => decide ((k : Int) ∈ out)) n) := perm_of_nodup hN (al_nodup _ n) fun x => by
    rw [al_mem, decide_eq_true_eq]
    constructor
    · intro hx
      have := h x hx
      exact ⟨this.1, this.2, by rw [show ((x.toNat : Nat) : Int) = x by omega]; exact hx⟩
    · rintro ⟨h0, h1, h2⟩
      rwa [show ((x.toNat : Nat) : Int) = x by omega] at h2
  rw [hp.length_eq]
  exact al_le _ n
/-- The place that has a number. -/
def plc (k : Int) : Int × Int := (k / 32, k % 32)
def prs (g : Nat → Bool) (n : Nat) : List (Int × Int) := (al g n).map plc
theorem prs_zero (g : Nat → Bool) : prs g 0 = [] := rfl
theorem prs_yes {g : Nat → Bool} {n : Nat} (h : g n = true) : prs g (n + 1) = prs g n ++ [plc n] := by unfold prs; rw [al_yes h, List.map_append]; rfl
theorem prs_no {g : Nat → Bool} {n : Nat} (h : g n = false) : prs g (n + 1) = prs g n := by unfold prs; rw [al_no h]
theorem prs_le (g : Nat → Bool) (n : Nat) : (prs g n).length ≤ n := by unfold prs; rw [List.length_map]; exact al_le g n
def lexR (a b : Int × Int) : Prop := a.1 < b.1 ∨ (a.1 = b.1 ∧ a.2 < b.2)
theorem lexR_asymm (a b : Int × Int) (h : lexR a b) : ¬ lexR b a := by unfold lexR at *; omega
theorem prs_sorted (g : Nat → Bool) (n : Nat) : (prs g n).Pairwise lexR := by
  unfold prs
  rw [List.pairwise_map]
  refine (al_sorted g n).imp_of_mem fun {a b} ha hb h => ?_
  have h1 := ((al_mem g a n).1 ha).1
  unfold lexR plc
  show a / 32 < b / 32 ∨ (a / 32 = b / 32 ∧ a % 32 < b % 32)
  omega
theorem prs_nodup (g : Nat → Bool) (n : Nat) : (prs g n).Nodup := (prs_sorted g n).imp fun {a b} h e => by subst e; unfold lexR at h; omega
theorem prs_mem {g : Nat → Bool} {n : Nat} {s p : Int} : (s, p) ∈ prs g n ↔ 0 ≤ s ∧ 0 ≤ p ∧ p < 32 ∧ s * 32 + p < n ∧ g (s * 32 + p).toNat = true := by
  unfold prs plc
  rw [List.mem_map]
  constructor
  · rintro ⟨k, hk, e⟩
    obtain ⟨h0, h1, h2⟩ := (al_mem g k n).1 hk
    injection e with e1 e2
    have : s * 32 + p = k := by omega
    rw [this]
    exact ⟨by omega, by omega, by omega, h1, h2⟩
  · rintro ⟨h0, h1, h2, h3, h4⟩
    refine ⟨s * 32 + p, (al_mem g _ n).2 ⟨by omega, h3, h4⟩, ?_⟩
    rw [show (s * 32 + p) / 32 = s by omega, show (s * 32 + p) % 32 = p by omega]
end Go.Proofs.Ytnckabgaichkkaa
