/-
Bits of bytes: what taking and freeing a bit makes of a map; how many are taken; the first that is free.
-/
import Derived.Test.YtjejnlfbonpfaaaEng9
namespace Go.Proofs.Ytjejnlfbonpfaaa
set_option linter.unusedVariables false
set_option linter.unusedSimpArgs false
open Eng

def sb (x : Int) (k : Nat) (b : Bool) : Int := if b then ((x.toNat ||| 2 ^ k : Nat) : Int) else ((x.toNat &&& (255 - 2 ^ k) : Nat) : Int)
theorem fin_or : ∀ x : Fin 256, ∀ k : Fin 8, bitv .or .u8 (x.val : Int) (shlv .u8 1 (k.val : Int)) = sb (x.val : Int) k.val true := by decide +kernel
theorem fin_andNot : ∀ x : Fin 256, ∀ k : Fin 8, bitv .andNot .u8 (x.val : Int) (shlv .u8 1 (k.val : Int)) = sb (x.val : Int) k.val false := by decide +kernel
theorem fin_has : ∀ x : Fin 256, ∀ k : Fin 8, decide (bitv .and .u8 (shrv .u8 (x.val : Int) (k.val : Int)) 1 = 1) = x.val.testBit k.val := by decide +kernel
theorem fin_sb : ∀ b : Bool, ∀ x : Fin 256, ∀ k : Fin 8, 0 ≤ sb (x.val : Int) k.val b ∧ sb (x.val : Int) k.val b ≤ 255 ∧ ∀ j : Fin 8, (sb (x.val : Int) k.val b).toNat.testBit j.val = if j = k then b else x.val.testBit j.val := by decide +kernel
section
variable {x k : Int} (h0 : 0 ≤ x) (h1 : x ≤ 255) (k0 : 0 ≤ k) (k1 : k < 8)
include h0 h1 k0 k1
theorem or_bit : bitv .or .u8 x (shlv .u8 1 k) = sb x k.toNat true := by
  have := fin_or ⟨x.toNat, by omega⟩ ⟨k.toNat, by omega⟩
  simp only [Int.toNat_of_nonneg h0, Int.toNat_of_nonneg k0] at this
  exact this
theorem andNot_bit : bitv .andNot .u8 x (shlv .u8 1 k) = sb x k.toNat false := by
  have := fin_andNot ⟨x.toNat, by omega⟩ ⟨k.toNat, by omega⟩
  simp only [Int.toNat_of_nonneg h0, Int.toNat_of_nonneg k0] at this
  exact this
theorem has_bit : decide (bitv .and .u8 (shrv .u8 x k) 1 = 1) = x.toNat.testBit k.toNat := by
  have := fin_has ⟨x.toNat, by omega⟩ ⟨k.toNat, by omega⟩
  simp only [Int.toNat_of_nonneg h0, Int.toNat_of_nonneg k0] at this
  exact this
theorem sb_bit (b : Bool) : 0 ≤ sb x k.toNat b ∧ sb x k.toNat b ≤ 255 ∧ ∀ j, j < 8 → (sb x k.toNat b).toNat.testBit j = if j = k.toNat then b else x.toNat.testBit j := by
  have := fin_sb b ⟨x.toNat, by omega⟩ ⟨k.toNat, by omega⟩
  simp only [Int.toNat_of_nonneg h0] at this
  refine ⟨this.1, this.2.1, fun j hj => ?_⟩
  have h := this.2.2 ⟨j, hj⟩
  simp only [Fin.mk.injEq] at h
  exact h
end

/-- Each is a byte. -/
def By (r : Nat → Int) : Prop := ∀ j, 0 ≤ r j ∧ r j ≤ 255
def tb (r : Nat → Int) (i : Nat) : Bool := (r (i / 8)).toNat.testBit (i % 8)
def setb (r : Nat → Int) (i : Nat) (b : Bool) : Nat → Int := upd r (i / 8) (sb (r (i / 8)) (i % 8) b)
theorem By.setb {r : Nat → Int} (h : By r) (i : Nat) (b : Bool) : By (setb r i b) := fun j => by
  unfold Ytjejnlfbonpfaaa.setb upd
  split
  · have := sb_bit (h (i / 8)).1 (h (i / 8)).2 (k := ((i % 8 : Nat) : Int)) (by omega) (by omega) b
    simp only [Int.toNat_natCast] at this
    exact ⟨this.1, this.2.1⟩
  · exact h j
theorem tb_setb {r : Nat → Int} (h : By r) (i : Nat) (b : Bool) (j : Nat) : tb (setb r i b) j = if j = i then b else tb r j := by
  unfold tb setb upd
  have := (sb_bit (h (i / 8)).1 (h (i / 8)).2 (k := ((i % 8 : Nat) : Int)) (by omega) (by omega) b).2.2 (j % 8) (by omega)
  simp only [Int.toNat_natCast] at this
  by_cases e : j / 8 = i / 8
  · rw [if_pos e, this, e]
    by_cases e' : j = i
    · subst e'; simp
    · rw [if_neg (by omega), if_neg e']
  · rw [if_neg e, if_neg (by intro h; subst h; exact e rfl)]
/-- Two maps of the same bits are the same. -/
theorem by_ext {r s : Nat → Int} (hr : By r) (hs : By s) (h : ∀ j, j < 512 → tb r j = tb s j) : ∀ i, i < 64 → r i = s i := fun i hi => by
  have key : (r i).toNat = (s i).toNat := by
    apply Nat.eq_of_testBit_eq
    intro k
    by_cases hk : k < 8
    · have := h (i * 8 + k) (by omega)
      unfold tb at this
      rwa [show (i * 8 + k) / 8 = i by omega, show (i * 8 + k) % 8 = k by omega] at this
    · have e : ∀ x : Int, 0 ≤ x → x ≤ 255 → x.toNat.testBit k = false := fun x h0 h1 => by
        apply Nat.testBit_lt_two_pow
        have : 2 ^ 8 ≤ 2 ^ k := Nat.pow_le_pow_right (by omega) (by omega)
        omega
      rw [e _ (hr i).1 (hr i).2, e _ (hs i).1 (hs i).2]
  have := hr i
  have := hs i
  omega

/-! ### How many, and the first -/
def cn (x : Nat → Bool) (a : Nat) : Nat → Nat
  | 0 => 0
  | n + 1 => cn x a n + (x (a + n)).toNat
theorem cn_add (x : Nat → Bool) (a n m : Nat) : cn x a (n + m) = cn x a n + cn x (a + n) m := by
  induction m with
  | zero => rfl
  | succ m ih => rw [← Nat.add_assoc]; simp only [cn]; rw [ih, Nat.add_assoc a n m]; omega
theorem cn_le (x : Nat → Bool) (a n : Nat) : cn x a n ≤ n := by
  induction n with
  | zero => exact Nat.le_refl _
  | succ n ih => simp only [cn]; have := Bool.toNat_le (x (a + n)); omega
theorem cn_congr {x y : Nat → Bool} {a : Nat} : ∀ {n : Nat}, (∀ i, i < n → x (a + i) = y (a + i)) → cn x a n = cn y a n
  | 0, _ => rfl
  | n + 1, h => by simp only [cn]; rw [cn_congr (n := n) fun i hi => h i (by omega), h n (by omega)]
def pop (x : Nat) : Nat := (List.range 8).countP x.testBit
theorem pop_eq (x : Nat) : pop x = cn x.testBit 0 8 := by
  unfold pop
  simp only [List.range_succ, List.range_zero, List.countP_append, List.countP_nil, List.countP_cons, cn, Nat.zero_add]
  have e : ∀ b : Bool, (if b = true then 1 else 0) = b.toNat := fun b => by cases b <;> rfl
  simp only [e]
theorem pop_tb (r : Nat → Int) (i : Nat) (h : i % 8 = 0) : pop (r (i / 8)).toNat = cn (tb r) i 8 := by
  rw [pop_eq]
  have : ∀ n, n ≤ 8 → cn (r (i / 8)).toNat.testBit 0 n = cn (tb r) i n := by
    intro n
    induction n with
    | zero => intro _; rfl
    | succ n ih =>
      intro hn
      simp only [cn, Nat.zero_add]
      rw [ih (by omega)]
      unfold tb
      rw [show (i + n) / 8 = i / 8 by omega, show (i + n) % 8 = n by omega]
  exact this 8 (Nat.le_refl _)
/-- The first that is free, of n from a on. -/
def ff (x : Nat → Bool) : Nat → Nat → Option Nat
  | _, 0 => none
  | a, n + 1 => bif x a then ff x (a + 1) n else some a
theorem ff_congr {x y : Nat → Bool} : ∀ {n a : Nat}, (∀ i, i < n → x (a + i) = y (a + i)) → ff x a n = ff y a n
  | 0, _, _ => rfl
  | n + 1, a, h => by
    have h1 : ff x (a + 1) n = ff y (a + 1) n := ff_congr fun i hi => by
      have := h (i + 1) (by omega)
      rwa [show a + (i + 1) = a + 1 + i by omega] at this
    have h2 := h 0 (by omega)
    rw [Nat.add_zero] at h2
    simp only [ff, h1, h2]
theorem ff_some {x : Nat → Bool} : ∀ {n a k : Nat}, ff x a n = some k → a ≤ k ∧ k < a + n ∧ x k = false
  | 0, _, _, h => by simp [ff] at h
  | n + 1, a, k, h => by
    simp only [ff] at h
    cases hx : x a with
    | true => rw [hx] at h; have := ff_some (n := n) (a := a + 1) h; exact ⟨by omega, by omega, this.2.2⟩
    | false => rw [hx] at h; simp at h; subst h; exact ⟨Nat.le_refl _, by omega, hx⟩
theorem ff_none {x : Nat → Bool} : ∀ {n a : Nat}, ff x a n = none ↔ cn x a n = n
  | 0, _ => by simp [ff, cn]
  | n + 1, a => by
    have h1 := cn_add x a 1 n
    rw [show 1 + n = n + 1 by omega] at h1
    have h2 := cn_le x (a + 1) n
    have h3 := ff_none (x := x) (n := n) (a := a + 1)
    simp only [ff]
    have h4 : cn x a 1 = (x a).toNat := by simp [cn]
    rw [h1, h4]
    cases hx : x a
    · simp; omega
    · simp only [cond_true, Bool.toNat_true]
      rw [h3]
      omega
/-- One more is taken. -/
theorem cn_upd {x : Nat → Bool} {a k : Nat} (h : x k = false) : ∀ {n : Nat}, a ≤ k → cn (fun j => if j = k then true else x j) a n = cn x a n + (if k < a + n then 1 else 0)
  | 0, hk => by rw [if_neg (by omega)]; rfl
  | n + 1, hk => by
    simp only [cn]
    rw [cn_upd h hk]
    by_cases e : a + n = k
    · subst e; rw [if_neg (Nat.lt_irrefl _), if_pos (by omega)]; simp [h]
    · rw [if_neg e]
      by_cases h' : k < a + n
      · rw [if_pos h', if_pos (by omega)]; omega
      · rw [if_neg h', if_neg (by omega)]; omega
/-- Of all below m, with a test on where they stand. -/
theorem cn_range (x : Nat → Bool) (f t : Int) : ∀ m : Nat, m ≤ 512 → cn (fun i => decide (f ≤ i) && decide ((i : Int) < t) && x i) 0 m = cn x (max f 0).toNat ((min t (m : Int)).toNat - (max f 0).toNat)
  | 0, _ => by rw [show (min t ((0 : Nat) : Int)).toNat = 0 by omega, Nat.zero_sub]; rfl
  | m + 1, h => by
    simp only [cn, Nat.zero_add]
    rw [cn_range x f t m (by omega)]
    by_cases h1 : f ≤ (m : Int) ∧ (m : Int) < t
    · rw [show (min t ((m + 1 : Nat) : Int)).toNat - (max f 0).toNat = ((min t (m : Int)).toNat - (max f 0).toNat) + 1 by omega]
      simp only [cn]
      rw [show (max f 0).toNat + ((min t (m : Int)).toNat - (max f 0).toNat) = m by omega]
      simp [h1.1, h1.2]
    · rw [show (min t ((m + 1 : Nat) : Int)).toNat - (max f 0).toNat = ((min t (m : Int)).toNat - (max f 0).toNat) by omega]
      have : (decide (f ≤ (m : Int)) && decide ((m : Int) < t) && x m) = false := by
        by_cases h2 : f ≤ (m : Int)
        · have : ¬ (m : Int) < t := fun h => h1 ⟨h2, h⟩
          simp [this]
        · simp [h2]
      rw [this]
      simp
theorem ff_range (x : Nat → Bool) (f t : Int) : ∀ (n a : Nat), a + n = 512 → ff (fun i => !(decide (f ≤ i) && decide ((i : Int) < t) && !x i)) a n = ff x (max (max f 0).toNat a) ((min t 512).toNat - (max (max f 0).toNat a))
  | 0, a, h => by rw [show (min t 512).toNat - (max (max f 0).toNat a) = 0 by omega]; rfl
  | n + 1, a, h => by
    simp only [ff]
    rw [ff_range x f t n (a + 1) (by omega)]
    by_cases h1 : f ≤ (a : Int) ∧ (a : Int) < t
    · rw [show max (max f 0).toNat a = a by omega, show max (max f 0).toNat (a + 1) = a + 1 by omega]
      rw [show (min t 512).toNat - a = ((min t 512).toNat - (a + 1)) + 1 by omega]
      simp only [ff]
      cases hx : x a <;> simp [h1.1, h1.2]
    · have : (decide (f ≤ (a : Int)) && decide ((a : Int) < t) && !x a) = false := by
        by_cases h2 : f ≤ (a : Int)
        · have : ¬ (a : Int) < t := fun h => h1 ⟨h2, h⟩
          simp [this]
        · simp [h2]
      rw [this]
      simp only [Bool.not_false, cond_true]
      by_cases h2 : f ≤ (a : Int)
      · rw [show (min t 512).toNat - max (max f 0).toNat (a + 1) = 0 by omega, show (min t 512).toNat - max (max f 0).toNat a = 0 by omega]
        rfl
      · rw [show max (max f 0).toNat (a + 1) = max (max f 0).toNat a by omega]
end Go.Proofs.Ytjejnlfbonpfaaa
