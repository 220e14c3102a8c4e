/-
Caps: trees in plain words; what stays true; the program and the document, deed by deed; those that have a number.
-/
import Derived.Test.YtfegdehgnhomnaaCd4
import Derived.Test.YtfegdehgnhomnaaCa9
namespace Go.Proofs.Ytfegdehgnhomnaa
set_option linter.unusedVariables false
set_option linter.unusedSimpArgs false
open Eng
/-! ### counts -/
theorem al_len_succ (s : Nat → Bool) (n : Nat) : (al s (n + 1)).length = (al s n).length + (if s n = true then 1 else 0) := by
  cases h : s n with
  | false => rw [al_no h]; simp
  | true => rw [al_yes h]; simp
theorem al_len_or {D E : Nat → Bool} : ∀ n, (∀ x, x < n → D x = true → E x = false) → (al (fun x => D x || E x) n).length = (al D n).length + (al E n).length
  | 0, _ => rfl
  | n + 1, h => by
    rw [al_len_succ, al_len_succ, al_len_succ, al_len_or n (fun x hx => h x (by omega))]
    have := h n (by omega)
    cases hD : D n with
    | true => rw [this hD]; simp; omega
    | false => cases hE : E n <;> simp <;> omega
theorem al_congr {D E : Nat → Bool} : ∀ n, (∀ x, x < n → D x = E x) → al D n = al E n
  | 0, _ => rfl
  | n + 1, h => by
    have h1 := al_congr n (fun x hx => h x (by omega))
    have h2 := h n (by omega)
    cases hD : D n with
    | true => rw [al_yes hD, al_yes (h2 ▸ hD), h1]
    | false => rw [al_no hD, al_no (h2 ▸ hD), h1]
theorem al_len_mono {D E : Nat → Bool} : ∀ n, (∀ x, x < n → D x = true → E x = true) → (al D n).length ≤ (al E n).length
  | 0, _ => Nat.le_refl _
  | n + 1, h => by
    have h1 := al_len_mono n (fun x hx => h x (by omega))
    have h2 := h n (by omega)
    rw [al_len_succ, al_len_succ]
    cases hD : D n with
    | true => rw [h2 hD]; simp; exact h1
    | false => simp; omega
theorem al_len_lt {D E : Nat → Bool} {k : Nat} : ∀ n, (∀ x, x < n → D x = true → E x = true) → k < n → D k = false → E k = true → (al D n).length < (al E n).length
  | 0, _, hk, _, _ => absurd hk (Nat.not_lt_zero _)
  | n + 1, h, hk, hD, hE => by
    rw [al_len_succ, al_len_succ]
    by_cases e : k = n
    · subst e
      have h1 := al_len_mono k (fun x hx => h x (by omega))
      rw [hD, hE]; simp; omega
    · have h1 := al_len_lt n (fun x hx => h x (by omega)) (by omega) hD hE
      have h2 := h n (by omega)
      cases hD : D n with
      | true => rw [h2 hD]; simp; omega
      | false => simp; omega
theorem al_len_one {i : Nat} : ∀ n, (al (fun x => decide (x = i)) n).length = if i < n then 1 else 0
  | 0 => rfl
  | n + 1 => by
    rw [al_len_succ, al_len_one n]
    by_cases e : n = i
    · subst e; simp
    · by_cases h : i < n
      · simp [e, h, show i < n + 1 by omega]
      · simp [e, h, show ¬ i < n + 1 by omega]
theorem al_none {s : Nat → Bool} : ∀ {n}, (al s n).length = 0 ↔ ∀ j, j < n → s j = false := fun {n} => by
  constructor
  · intro h j hj
    cases hs : s j with
    | false => rfl
    | true =>
      have : (j : Int) ∈ al s n := (al_mem s j n).2 ⟨by omega, by omega, by rw [Int.toNat_natCast]; exact hs⟩
      rw [List.eq_nil_of_length_eq_zero h] at this
      simp at this
  · intro h
    cases e : al s n with
    | nil => rfl
    | cons v r =>
      have hv : v ∈ al s n := by rw [e]; exact List.mem_cons_self
      obtain ⟨h0, h1, h2⟩ := (al_mem s v n).1 hv
      rw [h v.toNat (by omega)] at h2
      cases h2
/-! ### who is under whom -/
structure WP (T : Tq) : Prop where
  p : ∀ i, i < 64 → (T i).g ≠ 0 → (T i).p < 0 ∨ (0 ≤ (T i).p ∧ (T i).p < 64 ∧ (T (T i).p.toNat).g ≠ 0 ∧ (T (T i).p.toNat).g < (T i).g)
theorem WP.up {T : Tq} (h : WP T) {i j : Nat} (hi : i < 64) (hg : (T i).g ≠ 0) (e : (T i).p = (j : Int)) : j < 64 ∧ (T j).g ≠ 0 ∧ (T j).g < (T i).g := by
  rcases h.p i hi hg with h1 | ⟨h1, h2, h3, h4⟩
  · omega
  · rw [e, Int.toNat_natCast] at h3 h4
    exact ⟨by omega, h3, h4⟩
inductive Und (T : Tq) (a : Nat) : Nat → Prop
  | kid (i : Nat) : i < 64 → (T i).g ≠ 0 → (T i).p = (a : Int) → Und T a i
  | far (i j : Nat) : i < 64 → (T i).g ≠ 0 → (T i).p = (j : Int) → Und T a j → Und T a i
theorem Und.lt {T : Tq} {a i : Nat} (h : Und T a i) : i < 64 := by cases h <;> assumption
theorem Und.alive {T : Tq} {a i : Nat} (h : Und T a i) : (T i).g ≠ 0 := by cases h <;> assumption
theorem Und.gt {T : Tq} (hT : WP T) {a i : Nat} (h : Und T a i) : (T a).g < (T i).g := by
  induction h with
  | kid i hi hg e => exact (hT.up hi hg e).2.2
  | far i j hi hg e _ ih => have := (hT.up hi hg e).2.2; omega
def rk (T : Tq) (i : Nat) : Nat := (al (fun j => decide ((T j).g ≠ 0) && decide ((T j).g < (T i).g)) 64).length
def up (T : Tq) (i : Nat) : Nat := (al (fun j => decide ((T j).g ≠ 0) && decide ((T i).g < (T j).g)) 64).length
theorem rk_lt {T : Tq} {i : Nat} (hi : i < 64) : rk T i < 64 := by
  have h1 := al_len_lt (D := fun j => decide ((T j).g ≠ 0) && decide ((T j).g < (T i).g)) (E := fun _ => true) 64 (fun _ _ _ => rfl) hi (by simp) rfl
  have h2 := al_le (fun _ => true) 64
  unfold rk
  omega
theorem rk_up {T : Tq} {i j : Nat} (hj : j < 64) (hg : (T j).g ≠ 0) (h : (T j).g < (T i).g) : rk T j < rk T i := by
  refine al_len_lt (k := j) 64 (fun x hx hD => ?_) hj (by simp) (by simp [hg, h])
  simp only [Bool.and_eq_true, decide_eq_true_eq] at hD ⊢
  exact ⟨hD.1, by omega⟩
theorem up_kid {T : Tq} {i a : Nat} (hi : i < 64) (hg : (T i).g ≠ 0) (h : (T a).g < (T i).g) : up T i < up T a := by
  refine al_len_lt (k := i) 64 (fun x hx hD => ?_) hi (by simp) (by simp [hg, h])
  simp only [Bool.and_eq_true, decide_eq_true_eq] at hD ⊢
  exact ⟨hD.1, by omega⟩
theorem up_le {T : Tq} {i : Nat} : up T i ≤ 64 := al_le _ 64
def un (T : Tq) (a : Nat) : Nat → Bool := fun i => decide (i < 64) && undF T (a : Int) 64 i
theorem und_of {T : Tq} (hT : WP T) {a : Nat} : ∀ n i, i < 64 → undF T (a : Int) n i = true → Und T a i
  | 0, i, _, h => by cases h
  | n + 1, i, hi, h => by
    by_cases hg : (T i).g = 0
    · rw [undF_dead hg] at h; cases h
    · by_cases hp : (T i).p = (a : Int)
      · exact .kid i hi hg hp
      · by_cases h0 : (T i).p < 0
        · rw [undF_top hg hp h0] at h; cases h
        · rw [undF_up hg hp h0] at h
          have e : (T i).p = ((T i).p.toNat : Int) := by omega
          exact .far i _ hi hg e (und_of hT n _ (hT.up hi hg e).1 h)
theorem of_und {T : Tq} (hT : WP T) {a i : Nat} (h : Und T a i) : ∀ n, rk T i < n → undF T (a : Int) n i = true := by
  induction h with
  | kid i hi hg e => intro n hn; obtain ⟨m, rfl⟩ : ∃ m, n = m + 1 := ⟨n - 1, by omega⟩; exact undF_kid hg e
  | far i j hi hg e hu ih =>
    intro n hn
    obtain ⟨m, rfl⟩ : ∃ m, n = m + 1 := ⟨n - 1, by omega⟩
    have h1 := hT.up hi hg e
    have h2 := rk_up (i := i) h1.1 h1.2.1 h1.2.2
    by_cases hp : (T i).p = (a : Int)
    · exact undF_kid hg hp
    · rw [undF_up hg hp (by omega), e, Int.toNat_natCast]
      exact ih m (by omega)
theorem un_iff {T : Tq} (hT : WP T) {a i : Nat} : un T a i = true ↔ Und T a i := by
  unfold un
  rw [Bool.and_eq_true, decide_eq_true_eq]
  constructor
  · rintro ⟨hi, h⟩; exact und_of hT 64 i hi h
  · intro h; exact ⟨h.lt, of_und hT h 64 (rk_lt h.lt)⟩
theorem un_not {T : Tq} (hT : WP T) {a i : Nat} : un T a i = false ↔ ¬ Und T a i := by
  rw [← un_iff hT]; simp
theorem un_self {T : Tq} (hT : WP T) (a : Nat) : un T a a = false := (un_not hT).2 fun h => by have := h.gt hT; omega
theorem Und.trans {T : Tq} {a i x : Nat} (h1 : Und T a i) (h2 : Und T i x) : Und T a x := by
  induction h2 with
  | kid x hx hg e => exact .far x i hx hg e h1
  | far x j hx hg e _ ih => exact .far x j hx hg e ih
/-! ### those that are derived from one, one by one -/
theorem kd_sorted (T : Tq) (a : Int) : ∀ n, (kd' T a n).Pairwise (· < ·)
  | 0 => List.Pairwise.nil
  | n + 1 => by
    by_cases h : (T n).g ≠ 0 ∧ (T n).p = a
    · rw [kd_yes h, List.pairwise_append]
      refine ⟨kd_sorted T a n, List.pairwise_singleton _ _, fun x hx y hy => ?_⟩
      rw [List.mem_singleton] at hy
      have := ((kd_mem n).1 hx).1
      omega
    · rw [kd_no h]; exact kd_sorted T a n
theorem kd_at {T : Tq} {a : Int} {k : Nat} (h : k < (kd' T a 64).length) : (kd' T a 64).getD k 0 < 64 ∧ (T ((kd' T a 64).getD k 0)).g ≠ 0 ∧ (T ((kd' T a 64).getD k 0)).p = a := by
  have e : (kd' T a 64).getD k 0 = (kd' T a 64)[k] := by simp [h]
  rw [e]
  exact (kd_mem (T := T) (a := a) 64).1 (List.getElem_mem h)
theorem kd_ne {T : Tq} {a : Int} {j k : Nat} (hj : j < k) (h : k < (kd' T a 64).length) : (kd' T a 64).getD j 0 < (kd' T a 64).getD k 0 := by
  have e : (kd' T a 64).getD k 0 = (kd' T a 64)[k] := by simp [h]
  have e2 : (kd' T a 64).getD j 0 = (kd' T a 64)[j] := by simp [show j < (kd' T a 64).length by omega]
  rw [e, e2]
  exact List.pairwise_iff_getElem.1 (kd_sorted T a 64) j k (by omega) h hj
/-- The first k of a list of places, and all under them. -/
def dk (T : Tq) (K : List Nat) : Nat → Nat → Bool
  | 0 => fun _ => false
  | k + 1 => fun x => dk T K k x || (decide (x = K.getD k 0) || un T (K.getD k 0) x)
theorem dk_iff {T : Tq} (hT : WP T) {K : List Nat} : ∀ {k x}, dk T K k x = true ↔ ∃ j, j < k ∧ (x = K.getD j 0 ∨ Und T (K.getD j 0) x)
  | 0, x => ⟨fun h => (by cases h), fun ⟨j, hj, _⟩ => by omega⟩
  | k + 1, x => by
    show (dk T K k x || (decide (x = K.getD k 0) || un T (K.getD k 0) x)) = true ↔ _
    rw [Bool.or_eq_true, Bool.or_eq_true, decide_eq_true_eq, un_iff hT, dk_iff hT]
    constructor
    · rintro (⟨j, hj, h⟩ | h)
      · exact ⟨j, by omega, h⟩
      · exact ⟨k, by omega, h⟩
    · rintro ⟨j, hj, h⟩
      by_cases e : j = k
      · subst e; exact .inr h
      · exact .inl ⟨j, by omega, h⟩
section
variable {T : Tq} {a : Nat} (hT : WP T) (ha : a < 64) (hga : (T a).g ≠ 0)
include hT
theorem dk_up {k x : Nat} (hk : k ≤ (kd' T (a : Int) 64).length) (h : dk T (kd' T (a : Int) 64) k x = true) : x < 64 ∧ (T x).g ≠ 0 ∧ ((T x).p = (a : Int) ∨ ∃ y : Nat, (T x).p = (y : Int) ∧ dk T (kd' T (a : Int) 64) k y = true) := by
  obtain ⟨j, hj, h | h⟩ := (dk_iff hT).1 h
  · subst h
    have := kd_at (T := T) (a := (a : Int)) (k := j) (by omega)
    exact ⟨this.1, this.2.1, .inl this.2.2⟩
  · refine ⟨h.lt, h.alive, .inr ?_⟩
    cases h with
    | kid _ _ _ e => exact ⟨_, e, (dk_iff hT).2 ⟨j, hj, .inl rfl⟩⟩
    | far _ y _ _ e hu => exact ⟨y, e, (dk_iff hT).2 ⟨j, hj, .inr hu⟩⟩
theorem dk_down {k x y : Nat} (hx : x < 64) (hg : (T x).g ≠ 0) (e : (T x).p = (y : Int)) (h : dk T (kd' T (a : Int) 64) k y = true) : dk T (kd' T (a : Int) 64) k x = true := by
  obtain ⟨j, hj, h | h⟩ := (dk_iff hT).1 h
  · exact (dk_iff hT).2 ⟨j, hj, .inr (.kid x hx hg (h ▸ e))⟩
  · exact (dk_iff hT).2 ⟨j, hj, .inr (.far x y hx hg e h)⟩
theorem dk_new {k : Nat} (hk : k < (kd' T (a : Int) 64).length) : dk T (kd' T (a : Int) 64) k ((kd' T (a : Int) 64).getD k 0) = false := by
  cases h : dk T (kd' T (a : Int) 64) k ((kd' T (a : Int) 64).getD k 0) with
  | false => rfl
  | true =>
    exfalso
    have h0 := kd_at hk
    obtain ⟨j, hj, h1 | h1⟩ := (dk_iff hT).1 h
    · have := kd_ne hj hk; omega
    · have h2 := kd_at (T := T) (a := (a : Int)) (k := j) (by omega)
      have h3 := (hT.up h2.1 h2.2.1 h2.2.2).2.2
      cases h1 with
      | kid _ _ _ e =>
        have e2 := h0.2.2.symm.trans e
        have e3 : a = (kd' T (a : Int) 64).getD j 0 := by exact_mod_cast e2
        rw [← e3] at h3; omega
      | far _ y _ _ e hu =>
        have e2 := h0.2.2.symm.trans e
        have e3 : a = y := by exact_mod_cast e2
        subst e3
        have := hu.gt hT
        omega
theorem dk_off {k x : Nat} (hk : k < (kd' T (a : Int) 64).length) (h : Und T ((kd' T (a : Int) 64).getD k 0) x) : dk T (kd' T (a : Int) 64) k x = false := by
  have h0 := kd_at hk
  have h3 := (hT.up h0.1 h0.2.1 h0.2.2).2.2
  induction h with
  | kid x hx hg e =>
    cases hd : dk T (kd' T (a : Int) 64) k x with
    | false => rfl
    | true =>
      exfalso
      rcases (dk_up hT (by omega) hd).2.2 with e2 | ⟨y, e2, hy⟩
      · have e3 : (kd' T (a : Int) 64).getD k 0 = a := by exact_mod_cast e.symm.trans e2
        rw [e3] at h3; omega
      · have e3 : (kd' T (a : Int) 64).getD k 0 = y := by exact_mod_cast e.symm.trans e2
        subst e3
        rw [dk_new hT hk] at hy; cases hy
  | far x j hx hg e hu ih =>
    cases hd : dk T (kd' T (a : Int) 64) k x with
    | false => rfl
    | true =>
      exfalso
      rcases (dk_up hT (by omega) hd).2.2 with e2 | ⟨y, e2, hy⟩
      · have e3 : j = a := by exact_mod_cast e.symm.trans e2
        subst e3
        have := hu.gt hT
        omega
      · have e3 : j = y := by exact_mod_cast e.symm.trans e2
        subst e3
        rw [ih] at hy; cases hy
theorem dk_end {x : Nat} : dk T (kd' T (a : Int) 64) (kd' T (a : Int) 64).length x = un T a x := by
  rw [Bool.eq_iff_iff, dk_iff hT, un_iff hT]
  constructor
  · rintro ⟨j, hj, h⟩
    have h0 := kd_at hj
    have hk : Und T a ((kd' T (a : Int) 64).getD j 0) := .kid _ h0.1 h0.2.1 h0.2.2
    rcases h with rfl | h
    · exact hk
    · exact hk.trans h
  · intro h
    induction h with
    | kid x hx hg e =>
      obtain ⟨j, hj, e2⟩ := List.getElem_of_mem ((kd_mem (T := T) (a := (a : Int)) (i := x) 64).2 ⟨hx, hg, e⟩)
      exact ⟨j, hj, .inl (by rw [← e2]; simp [hj])⟩
    | far x y hx hg e hu ih =>
      obtain ⟨j, hj, h⟩ := ih
      refine ⟨j, hj, .inr ?_⟩
      rcases h with rfl | h
      · exact .kid x hx hg e
      · exact .far x y hx hg e h
end
/-- Two trees are alike, but for some that may be gone in one. -/
def Ag (T T' : Tq) (D : Nat → Bool) : Prop := ∀ x, (D x = false → (T' x).g = (T x).g ∧ (T' x).p = (T x).p) ∧ ((T' x).g ≠ 0 → (T' x).g = (T x).g ∧ (T' x).p = (T x).p)
theorem Ag.und {T T' : Tq} {D : Nat → Bool} (h : Ag T T' D) {i x : Nat} (hu : Und T' i x) : Und T i x := by
  induction hu with
  | kid x hx hg e => have := (h x).2 hg; exact .kid x hx (this.1 ▸ hg) (this.2 ▸ e)
  | far x j hx hg e _ ih => have := (h x).2 hg; exact .far x j hx (this.1 ▸ hg) (this.2 ▸ e) ih
theorem Ag.dnu {T T' : Tq} {D : Nat → Bool} (h : Ag T T' D) {i x : Nat} (hD : ∀ y, Und T i y → D y = false) (hu : Und T i x) : Und T' i x := by
  induction hu with
  | kid x hx hg e => have := (h x).1 (hD x (.kid x hx hg e)); exact .kid x hx (this.1.symm ▸ hg) (this.2.symm ▸ e)
  | far x j hx hg e hu ih => have := (h x).1 (hD x (.far x j hx hg e hu)); exact .far x j hx (this.1.symm ▸ hg) (this.2.symm ▸ e) ih
theorem Ag.un {T T' : Tq} {D : Nat → Bool} (h : Ag T T' D) (hT : WP T) (hT' : WP T') {i : Nat} (hD : ∀ y, Und T i y → D y = false) (x : Nat) : un T' i x = Go.Proofs.Ytfegdehgnhomnaa.un T i x := by
  rw [Bool.eq_iff_iff, un_iff hT, un_iff hT']
  exact ⟨h.und, h.dnu hD⟩
theorem Ag.up {T T' : Tq} {D : Nat → Bool} (h : Ag T T' D) {i : Nat} (hi : (T' i).g = (T i).g) : up T' i ≤ Go.Proofs.Ytfegdehgnhomnaa.up T i := by
  refine al_len_mono 64 fun x hx hD => ?_
  simp only [Bool.and_eq_true, decide_eq_true_eq] at hD ⊢
  have := (h x).2 hD.1
  rw [← this.1, ← hi]; exact hD
theorem upd_other (T : Tq) {k x : Nat} {y : Cq} (e : x ≠ k) : upd T k y x = T x := by unfold Eng.upd; rw [if_neg e]
/-! ### Revoke -/
def zap (T : Tq) (D : Nat → Bool) : Tq := fun x => if D x = true then Cq.zero else T x
theorem zap_no {T : Tq} {D : Nat → Bool} {x : Nat} (h : D x = false) : zap T D x = T x := by unfold zap; rw [h]; rfl
theorem zap_yes {T : Tq} {D : Nat → Bool} {x : Nat} (h : D x = true) : zap T D x = Cq.zero := by unfold zap; rw [h]; rfl
theorem zap_ag (T : Tq) (D : Nat → Bool) : Ag T (zap T D) D := fun x => by
  cases h : D x with
  | false => rw [zap_no h]; exact ⟨fun _ => ⟨rfl, rfl⟩, fun _ => ⟨rfl, rfl⟩⟩
  | true => rw [zap_yes h]; exact ⟨fun e => (by cases e), fun e => absurd rfl e⟩
theorem zap_wp {T : Tq} (hT : WP T) {D : Nat → Bool} (hD : ∀ x y : Nat, x < 64 → (T x).g ≠ 0 → (T x).p = (y : Int) → D y = true → D x = true) : WP (zap T D) := ⟨fun i hi hg => by
  cases h : D i with
  | true => rw [zap_yes h] at hg; exact absurd rfl hg
  | false =>
    rw [zap_no h] at hg ⊢
    rcases hT.p i hi hg with h1 | h1
    · exact .inl h1
    · refine .inr ?_
      have e : (T i).p = ((T i).p.toNat : Int) := by omega
      have h2 : D (T i).p.toNat = false := by
        cases h2 : D (T i).p.toNat with
        | false => rfl
        | true => rw [hD i _ hi hg e h2] at h; cases h
      rw [zap_no h2]; exact h1⟩
theorem rv_main : ∀ (f : Nat) (T : Tq) (a : Nat), WP T → a < 64 → (T a).g ≠ 0 → up T a < f → rvF f T a (T a).g = some (zap T (un T a), (al (un T a) 64).length)
  | 0, T, a, hT, ha, hg, hf => absurd hf (Nat.not_lt_zero _)
  | f + 1, T, a, hT, ha, hg, hf => by
    have hi : isN T (a : Int) (T a).g := ⟨by omega, by omega, hg, by rw [Int.toNat_natCast]⟩
    have hE : (fun x => dk T (kd' T (a : Int) 64) (kd' T (a : Int) 64).length x) = un T a := funext fun x => dk_end hT
    have key : ∀ k, k ≤ (kd' T (a : Int) 64).length → rvS (rvF f) T (kd' T (a : Int) 64) k = some (zap T (dk T (kd' T (a : Int) 64) k), (al (dk T (kd' T (a : Int) 64) k) 64).length) := by
      intro k
      induction k with
      | zero =>
        intro _
        rw [rvS_zero]
        have e1 : zap T (dk T (kd' T (a : Int) 64) 0) = T := funext fun x => zap_no rfl
        have e2 : (al (dk T (kd' T (a : Int) 64) 0) 64).length = 0 := al_none.2 fun j _ => rfl
        rw [e1, e2]
      | succ k ih =>
        intro hk
        have hk' : k < (kd' T (a : Int) 64).length := by omega
        have h0 := kd_at hk'
        have hnew := dk_new hT hk'
        have hoff := fun x => dk_off (x := x) hT hk'
        have hag := zap_ag T (dk T (kd' T (a : Int) 64) k)
        have hwp := zap_wp hT (D := dk T (kd' T (a : Int) 64) k) (fun x y hx hgx e h => dk_down hT hx hgx e h)
        have hun := hag.un hT hwp hoff
        have hgi := (hT.up h0.1 h0.2.1 h0.2.2).2.2
        have hz := zap_no (T := T) hnew
        have hup := hag.up (i := (kd' T (a : Int) 64).getD k 0) (by rw [hz])
        have hup2 := up_kid h0.1 h0.2.1 hgi
        have IH := rv_main f (zap T (dk T (kd' T (a : Int) 64) k)) ((kd' T (a : Int) 64).getD k 0) hwp h0.1 (by rw [hz]; exact h0.2.1) (by omega)
        rw [hz] at IH
        simp only [rvS, ih (by omega), IH]
        have hdk : ∀ x, dk T (kd' T (a : Int) 64) (k + 1) x = (dk T (kd' T (a : Int) 64) k x || (decide (x = (kd' T (a : Int) 64).getD k 0) || un T ((kd' T (a : Int) 64).getD k 0) x)) := fun _ => rfl
        generalize (kd' T (a : Int) 64).getD k 0 = i at *
        have hun' : un (zap T (dk T (kd' T (a : Int) 64) k)) i = un T i := funext hun
        rw [hun']
        have e1 : upd (zap (zap T (dk T (kd' T (a : Int) 64) k)) (un T i)) i Cq.zero = zap T (dk T (kd' T (a : Int) 64) (k + 1)) := by
          funext x
          by_cases e : x = i
          · subst e
            rw [upd_same, zap_yes (by rw [hdk]; simp)]
          · rw [upd_other _ e]
            cases h1 : un T i x with
            | true => rw [zap_yes h1, zap_yes (by rw [hdk, h1]; simp)]
            | false =>
              rw [zap_no h1]
              cases h2 : dk T (kd' T (a : Int) 64) k x with
              | true => rw [zap_yes h2, zap_yes (by rw [hdk, h2]; rfl)]
              | false => rw [zap_no h2, zap_no (by rw [hdk, h1, h2]; simp [e])]
        have e2 : (al (dk T (kd' T (a : Int) 64) (k + 1)) 64).length = (al (dk T (kd' T (a : Int) 64) k) 64).length + ((al (un T i) 64).length + 1) := by
          rw [al_congr 64 (fun x _ => hdk x), al_len_or 64 (fun x _ h => ?_), al_len_or 64 (fun x _ h => ?_), al_len_one, if_pos h0.1]
          · omega
          · rw [decide_eq_true_eq] at h
            subst h
            exact un_self hT _
          · cases h1 : un T i x with
            | true => rw [hoff x ((un_iff hT).1 h1)] at h; cases h
            | false =>
              rw [Bool.or_false, decide_eq_false_iff_not]
              intro e
              subst e
              rw [hnew] at h; cases h
        rw [e1, e2]
    unfold rvF
    rw [if_pos hi, key _ (Nat.le_refl _)]
    rw [show dk T (kd' T (a : Int) 64) (kd' T (a : Int) 64).length = un T a from hE]
theorem lay1 (s t : Nat → Bool) (j : Nat) : layS 1 s t j = (s j && !t j) := rfl
theorem lay2 (s t : Nat → Bool) (j : Nat) : layS 2 s t j = (s j && t j) := rfl
theorem lay0 (s t : Nat → Bool) (j : Nat) : layS 0 s t j = (s j || t j) := rfl
structure WC (T : Tq) : Prop extends WP T where
  w : ∀ i y : Nat, i < 64 → (T i).g ≠ 0 → (T i).p = (y : Int) → ∀ j, j < 1024 → (T i).s j = true → (T y).s j = true
def cutD (S : Nat → Bool) (T : Tq) (D : Nat → Bool) : Tq := fun x => if D x = true then cutX S (T x) else T x
theorem cutD_no {S : Nat → Bool} {T : Tq} {D : Nat → Bool} {x : Nat} (h : D x = false) : cutD S T D x = T x := by unfold cutD; rw [h]; rfl
theorem cutD_yes {S : Nat → Bool} {T : Tq} {D : Nat → Bool} {x : Nat} (h : D x = true) : cutD S T D x = cutX S (T x) := by unfold cutD; rw [h]; rfl
theorem cutX_alive {S : Nat → Bool} {x : Cq} (h : (cutX S x).g ≠ 0) : ¬ ((al (layS 1 x.s S) 1024).length = 0 ∧ 0 ≤ x.p) := fun e => by
  rw [cutX_0 e.1 e.2] at h; exact h rfl
theorem cutX_eq {S : Nat → Bool} {x : Cq} (h : (cutX S x).g ≠ 0) : cutX S x = { x with s := layS 1 x.s S } := cutX_1 (cutX_alive h)
theorem cutD_ag (S : Nat → Bool) (T : Tq) (D : Nat → Bool) : Ag T (cutD S T D) D := fun x => by
  cases h : D x with
  | false => rw [cutD_no h]; exact ⟨fun _ => ⟨rfl, rfl⟩, fun _ => ⟨rfl, rfl⟩⟩
  | true =>
    rw [cutD_yes h]
    refine ⟨fun e => (by cases e), fun e => ?_⟩
    rw [cutX_eq e]; exact ⟨rfl, rfl⟩
theorem cutD_wc {S : Nat → Bool} {T : Tq} (hT : WC T) {D : Nat → Bool} (hD : ∀ x y : Nat, x < 64 → (T x).g ≠ 0 → (T x).p = (y : Int) → D y = true → D x = true) : WC (cutD S T D) := by
  have hpar : ∀ i y : Nat, i < 64 → (cutD S T D i).g ≠ 0 → (T i).p = (y : Int) → (cutD S T D y).g ≠ 0 ∧ ((cutD S T D y).g = (T y).g) ∧ (∀ j, j < 1024 → (cutD S T D i).s j = true → (cutD S T D y).s j = true) := by
    intro i y hi hg e
    have hgT := ((cutD_ag S T D i).2 hg).1 ▸ hg
    have hy := hT.up hi hgT e
    have hw := hT.w i y hi hgT e
    cases hDy : D y with
    | false =>
      rw [cutD_no hDy]
      refine ⟨hy.2.1, rfl, fun j hj h => hw j hj ?_⟩
      cases hDi : D i with
      | false => rw [cutD_no hDi] at h; exact h
      | true =>
        rw [cutD_yes hDi] at h hg
        rw [cutX_eq hg] at h
        have h : ((T i).s j && !S j) = true := h
        rw [Bool.and_eq_true] at h; exact h.1
    | true =>
      have hDi := hD i y hi hgT e hDy
      rw [cutD_yes hDi] at hg ⊢
      rw [cutD_yes hDy]
      have hal := cutX_alive hg
      have hay : ¬ ((al (layS 1 (T y).s S) 1024).length = 0 ∧ 0 ≤ (T y).p) := fun e2 => hal ⟨by
        rw [al_none] at e2 ⊢
        intro j hj
        have := e2.1 j hj
        rw [lay1] at this ⊢
        cases hs : (T i).s j with
        | false => rfl
        | true => rw [hw j hj hs] at this; exact this, by omega⟩
      rw [cutX_1 hay, cutX_1 hal]
      refine ⟨hy.2.1, rfl, fun j hj h => ?_⟩
      have h : ((T i).s j && !S j) = true := h
      show ((T y).s j && !S j) = true
      rw [Bool.and_eq_true] at h ⊢
      exact ⟨hw j hj h.1, h.2⟩
  refine ⟨⟨fun i hi hg => ?_⟩, fun i y hi hg e => ?_⟩
  · have h1 := (cutD_ag S T D i).2 hg
    have hgT := h1.1 ▸ hg
    rw [h1.1, h1.2]
    rcases hT.p i hi hgT with h2 | h2
    · exact .inl h2
    · refine .inr ?_
      have e : (T i).p = ((T i).p.toNat : Int) := by omega
      have h3 := hpar i _ hi hg e
      refine ⟨h2.1, h2.2.1, h3.1, ?_⟩
      rw [h3.2.1]; exact h2.2.2.2
  · have h1 := (cutD_ag S T D i).2 hg
    rw [h1.2] at e
    exact (hpar i y hi hg e).2.2
def had (S : Nat → Bool) (T : Tq) : Nat → Bool := fun x => decide ((al (layS 2 (T x).s S) 1024).length ≠ 0)
theorem had_c (S : Nat → Bool) (T : Tq) (x : Nat) : cutC S (T x) = if had S T x = true then 1 else 0 := by
  unfold cutC had
  by_cases h : (al (layS 2 (T x).s S) 1024).length = 0
  · rw [if_pos h, decide_eq_false (fun e => e h)]; rfl
  · rw [if_neg h, decide_eq_true h]; rfl
theorem al_len_at {i : Nat} {h : Nat → Bool} : ∀ n, (al (fun x => decide (x = i) && h x) n).length = if i < n then (if h i = true then 1 else 0) else 0
  | 0 => rfl
  | n + 1 => by
    rw [al_len_succ, al_len_at n]
    by_cases e : n = i
    · subst e; simp
    · by_cases h : i < n
      · simp [e, h, show i < n + 1 by omega]
      · simp [e, h, show ¬ i < n + 1 by omega]
theorem ct_main (S : Nat → Bool) : ∀ (f : Nat) (T : Tq) (a : Nat), WC T → a < 64 → (T a).g ≠ 0 → up T a < f → ctF S f T a (T a).g = some (cutD S T (fun x => decide (x = a) || un T a x), (al (fun x => (decide (x = a) || un T a x) && had S T x) 64).length)
  | 0, T, a, hT, ha, hg, hf => absurd hf (Nat.not_lt_zero _)
  | f + 1, T, a, hTc, ha, hg, hf => by
    have hT : WP T := hTc.toWP
    have hi : isN T (a : Int) (T a).g := ⟨by omega, by omega, hg, by rw [Int.toNat_natCast]⟩
    have hE : dk T (kd' T (a : Int) 64) (kd' T (a : Int) 64).length = un T a := funext fun x => dk_end hT
    have key : ∀ k, k ≤ (kd' T (a : Int) 64).length → ctS (ctF S f) T (kd' T (a : Int) 64) k = some (cutD S T (dk T (kd' T (a : Int) 64) k), (al (fun x => dk T (kd' T (a : Int) 64) k x && had S T x) 64).length) := by
      intro k
      induction k with
      | zero =>
        intro _
        rw [ctS_zero]
        have e1 : cutD S T (dk T (kd' T (a : Int) 64) 0) = T := funext fun x => cutD_no rfl
        have e2 : (al (fun x => dk T (kd' T (a : Int) 64) 0 x && had S T x) 64).length = 0 := al_none.2 fun j _ => rfl
        rw [e1, e2]
      | succ k ih =>
        intro hk
        have hk' : k < (kd' T (a : Int) 64).length := by omega
        have h0 := kd_at hk'
        have hnew := dk_new hT hk'
        have hoff := fun x => dk_off (x := x) hT hk'
        have hag := cutD_ag S T (dk T (kd' T (a : Int) 64) k)
        have hwc := cutD_wc (S := S) hTc (D := dk T (kd' T (a : Int) 64) k) (fun x y hx hgx e h => dk_down hT hx hgx e h)
        have hun := hag.un hT hwc.toWP hoff
        have hgi := (hT.up h0.1 h0.2.1 h0.2.2).2.2
        have hz := cutD_no (S := S) (T := T) hnew
        have hup := hag.up (i := (kd' T (a : Int) 64).getD k 0) (by rw [hz])
        have hup2 := up_kid h0.1 h0.2.1 hgi
        have IH := ct_main S f (cutD S T (dk T (kd' T (a : Int) 64) k)) ((kd' T (a : Int) 64).getD k 0) hwc h0.1 (by rw [hz]; exact h0.2.1) (by omega)
        rw [hz] at IH
        simp only [ctS, ih (by omega), IH]
        have hdk : ∀ x, dk T (kd' T (a : Int) 64) (k + 1) x = (dk T (kd' T (a : Int) 64) k x || (decide (x = (kd' T (a : Int) 64).getD k 0) || un T ((kd' T (a : Int) 64).getD k 0) x)) := fun _ => rfl
        generalize (kd' T (a : Int) 64).getD k 0 = i at *
        have hun' : un (cutD S T (dk T (kd' T (a : Int) 64) k)) i = un T i := funext hun
        rw [hun']
        have hx : ∀ x, (decide (x = i) || un T i x) = true → dk T (kd' T (a : Int) 64) k x = false := fun x h => by
          rw [Bool.or_eq_true, decide_eq_true_eq] at h
          rcases h with rfl | h
          · exact hnew
          · exact hoff x ((un_iff hT).1 h)
        generalize hG : (fun x => decide (x = i) || un T i x) = G at *
        have hGx : ∀ x, (decide (x = i) || un T i x) = G x := fun x => congrFun hG x
        have hx : ∀ x, G x = true → dk T (kd' T (a : Int) 64) k x = false := fun x h => hx x (by rw [hGx]; exact h)
        have e1 : cutD S (cutD S T (dk T (kd' T (a : Int) 64) k)) G = cutD S T (dk T (kd' T (a : Int) 64) (k + 1)) := by
          funext x
          cases h1 : G x with
          | true => rw [cutD_yes h1, cutD_no (hx x h1), cutD_yes (by rw [hdk, hGx, h1]; simp)]
          | false =>
            rw [cutD_no h1]
            cases h2 : dk T (kd' T (a : Int) 64) k x with
            | true => rw [cutD_yes h2, cutD_yes (by rw [hdk, h2]; rfl)]
            | false => rw [cutD_no h2, cutD_no (by rw [hdk, hGx, h1, h2]; rfl)]
        have e2 : (al (fun x => dk T (kd' T (a : Int) 64) (k + 1) x && had S T x) 64).length = (al (fun x => dk T (kd' T (a : Int) 64) k x && had S T x) 64).length + (al (fun x => G x && had S (cutD S T (dk T (kd' T (a : Int) 64) k)) x) 64).length := by
          rw [← al_len_or 64 (fun x _ h => ?_)]
          · rw [al_congr 64 (fun x _ => ?_)]
            rw [hdk, hGx]
            cases h1 : G x with
            | true =>
              have h2 := hx x h1
              have h3 : had S (cutD S T (dk T (kd' T (a : Int) 64) k)) x = had S T x := by unfold had; rw [cutD_no h2]
              rw [h2, h3]; rfl
            | false => simp
          · cases h1 : G x with
            | true => rw [hx x h1] at h; cases h
            | false => rfl
        have e3 : (al (fun x => (decide (x = i) || un T i x) && had S (cutD S T (dk T (kd' T (a : Int) 64) k)) x) 64).length = (al (fun x => G x && had S (cutD S T (dk T (kd' T (a : Int) 64) k)) x) 64).length := by rw [al_congr 64 (fun x _ => by rw [hGx])]
        rw [e1, e2, ← e3]
    unfold ctF
    rw [if_pos hi, key _ (Nat.le_refl _), hE]
    have ha0 : cutD S T (un T a) a = T a := cutD_no (un_self hT a)
    simp only [ha0]
    have e1 : upd (cutD S T (un T a)) a (cutX S (T a)) = cutD S T (fun x => decide (x = a) || un T a x) := by
      funext x
      by_cases e : x = a
      · subst e
        rw [upd_same, cutD_yes (by simp)]
      · rw [upd_other _ e]
        cases h1 : un T a x with
        | true => rw [cutD_yes h1, cutD_yes (by simp [h1])]
        | false => rw [cutD_no h1, cutD_no (by simp [h1, e])]
    have e2 : (al (fun x => (decide (x = a) || un T a x) && had S T x) 64).length = (al (fun x => un T a x && had S T x) 64).length + cutC S (T a) := by
      rw [had_c, show (if had S T a = true then 1 else 0) = (al (fun x => decide (x = a) && had S T x) 64).length by rw [al_len_at, if_pos ha], ← al_len_or 64 (fun x _ h => ?_)]
      · rw [al_congr 64 (fun x _ => ?_)]
        cases decide (x = a) <;> cases un T a x <;> cases had S T x <;> rfl
      · by_cases e : x = a
        · subst e
          rw [un_self hT] at h; cases h
        · simp [e]
    rw [e1, e2]
/-! ### the document's lists -/
theorem zl_pre (T : Tq) (L M : List Int) : ∀ k, k ≤ L.length → zl T (L ++ M) k = zl T L k
  | 0, _ => rfl
  | k + 1, h => by
    rw [← zl_succ, ← zl_succ, zl_pre T L M k (by omega)]
    rw [show (L ++ M).getD k 0 = L.getD k 0 by simp [List.getElem?_append_left (show k < L.length by omega)]]
theorem getD_last (L : List Int) (v : Int) : (L ++ [v]).getD L.length 0 = v := by simp
theorem zl_all (T : Tq) (D : Nat → Bool) : ∀ n, zl T (al D n) (al D n).length = zap T (fun x => decide (x < n) && D x)
  | 0 => by funext x; rw [zap_no (by simp)]; rfl
  | n + 1 => by
    cases h : D n with
    | false =>
      rw [al_no h, zl_all T D n]
      congr 1
      funext x
      by_cases e : x = n
      · subst e; simp [h]
      · rw [show decide (x < n + 1) = decide (x < n) by by_cases c : x < n; · simp [c]; omega
                                                        · simp [c]; omega]
    | true =>
      rw [al_yes h, List.length_append, List.length_singleton, ← zl_succ, zl_pre _ _ _ _ (Nat.le_refl _), zl_all T D n, getD_last, Int.toNat_natCast]
      funext x
      by_cases e : x = n
      · subst e; rw [upd_same, zap_yes (by simp [h])]
      · rw [upd_other _ e]
        unfold zap
        show (if (decide (x < n) && D x) = true then Cq.zero else T x) = if (decide (x < n + 1) && D x) = true then Cq.zero else T x
        rw [show decide (x < n + 1) = decide (x < n) by by_cases c : x < n; · simp [c]; omega
                                                        · simp [c]; omega]
theorem cl_pre (S : Nat → Bool) (T : Tq) (L M : List Int) : ∀ k, k ≤ L.length → cl S T (L ++ M) k = cl S T L k
  | 0, _ => rfl
  | k + 1, h => by
    rw [← cl_succ, ← cl_succ, cl_pre S T L M k (by omega)]
    rw [show (L ++ M).getD k 0 = L.getD k 0 by simp [List.getElem?_append_left (show k < L.length by omega)]]
theorem cn_succ (S : Nat → Bool) (T : Tq) (L : List Int) (k : Nat) : cn S T L (k + 1) = cn S T L k + cutC S (cl S T L k (L.getD k 0).toNat) := rfl
theorem cn_pre (S : Nat → Bool) (T : Tq) (L M : List Int) : ∀ k, k ≤ L.length → cn S T (L ++ M) k = cn S T L k
  | 0, _ => rfl
  | k + 1, h => by
    rw [cn_succ, cn_succ, cn_pre S T L M k (by omega), cl_pre S T L M k (by omega)]
    rw [show (L ++ M).getD k 0 = L.getD k 0 by simp [List.getElem?_append_left (show k < L.length by omega)]]
theorem cl_all (S : Nat → Bool) (T : Tq) (D : Nat → Bool) : ∀ n, cl S T (al D n) (al D n).length = (fun x => if (decide (x < n) && D x) = true then cutN S (T x) else T x) ∧ cn S T (al D n) (al D n).length = (al (fun x => D x && had S T x) n).length
  | 0 => ⟨by funext x; simp; rfl, rfl⟩
  | n + 1 => by
    obtain ⟨h1, h2⟩ := cl_all S T D n
    have hlt : ∀ x, x ≠ n → decide (x < n + 1) = decide (x < n) := fun x e => by
      by_cases c : x < n
      · simp [c]; omega
      · simp [c]; omega
    rw [al_len_succ (fun x => D x && had S T x)]
    cases h : D n with
    | false =>
      rw [al_no h, h1, h2]
      refine ⟨funext fun x => ?_, by simp⟩
      by_cases e : x = n
      · subst e; simp [h]
      · rw [hlt x e]
    | true =>
      rw [al_yes h, List.length_append, List.length_singleton, ← cl_succ, cn_succ, cl_pre _ _ _ _ _ (Nat.le_refl _), cn_pre _ _ _ _ _ (Nat.le_refl _), getD_last, Int.toNat_natCast, h1, h2]
      have e0 : (if (decide (n < n) && D n) = true then cutN S (T n) else T n) = T n := by simp
      simp only [e0]
      rw [had_c]
      refine ⟨funext fun x => ?_, by simp⟩
      by_cases e : x = n
      · subst e; rw [upd_same, if_pos (by simp [h])]
      · rw [upd_other _ e, hlt x e]
theorem ze_pre (T : Tq) (L M : List Int) : ∀ k, k ≤ L.length → ze T (L ++ M) k = ze T L k
  | 0, _ => rfl
  | k + 1, h => by
    unfold ze
    rw [ze_pre T L M k (by omega)]
    rw [show (L ++ M).getD k 0 = L.getD k 0 by simp [List.getElem?_append_left (show k < L.length by omega)]]
def gone0 (x : Cq) : Bool := decide (0 ≤ x.p) && decide ((al x.s 1024).length = 0)
theorem ze_all (T : Tq) (D : Nat → Bool) : ∀ n, ze T (al D n) (al D n).length = (fun x => if (decide (x < n) && (D x && gone0 (T x))) = true then Cq.zero else T x)
  | 0 => by funext x; simp; rfl
  | n + 1 => by
    have h1 := ze_all T D n
    have hlt : ∀ x, x ≠ n → decide (x < n + 1) = decide (x < n) := fun x e => by
      by_cases c : x < n
      · simp [c]; omega
      · simp [c]; omega
    cases h : D n with
    | false =>
      rw [al_no h, h1]
      funext x
      by_cases e : x = n
      · subst e; simp [h]
      · rw [hlt x e]
    | true =>
      rw [al_yes h, List.length_append, List.length_singleton]
      have e0 : ze T (al D n ++ [(n : Int)]) (al D n).length = (fun x => if (decide (x < n) && (D x && gone0 (T x))) = true then Cq.zero else T x) := by rw [ze_pre _ _ _ _ (Nat.le_refl _), h1]
      have e1 : (if (decide (n < n) && (D n && gone0 (T n))) = true then Cq.zero else T n) = T n := by simp
      by_cases hc : 0 ≤ (T n).p ∧ (al (T n).s 1024).length = 0
      · rw [← ze_yes (by rw [getD_last, Int.toNat_natCast, e0]; simp only [e1]; exact hc.1) (by rw [getD_last, Int.toNat_natCast, e0]; simp only [e1]; exact hc.2), getD_last, Int.toNat_natCast, e0]
        funext x
        by_cases e : x = n
        · subst e; rw [upd_same, if_pos (by simp [h, gone0, hc.1, hc.2])]
        · rw [upd_other _ e, hlt x e]
      · rw [ze_no (by rw [getD_last, Int.toNat_natCast, e0]; simp only [e1]; exact hc), e0]
        funext x
        by_cases e : x = n
        · subst e
          rw [e1, if_neg (by simp only [gone0, Bool.and_eq_true, decide_eq_true_eq]; exact fun e2 => hc e2.2.2)]
        · rw [hlt x e]
theorem cut_doc (S : Nat → Bool) (T : Tq) (D : Nat → Bool) : ze (cl S T (al D 64) (al D 64).length) (al D 64) (al D 64).length = cutD S T (fun x => decide (x < 64) && D x) ∧ cn S T (al D 64) (al D 64).length = (al (fun x => D x && had S T x) 64).length := by
  refine ⟨?_, (cl_all S T D 64).2⟩
  rw [ze_all, (cl_all S T D 64).1]
  funext x
  cases h : (decide (x < 64) && D x) with
  | false =>
    rw [cutD_no (D := fun x => decide (x < 64) && D x) h]
    rw [← Bool.and_assoc]
    simp only [h, Bool.false_and]
    rfl
  | true =>
    rw [cutD_yes (D := fun x => decide (x < 64) && D x) h]
    simp only [if_true]
    rw [← Bool.and_assoc, h, Bool.true_and]
    unfold cutX gone0 cutN
    by_cases hc : (al (layS 1 (T x).s S) 1024).length = 0 ∧ 0 ≤ (T x).p
    · rw [if_pos hc, if_pos (by simp [hc.1, hc.2])]
    · rw [if_neg hc, if_neg (by simp only [Bool.and_eq_true, decide_eq_true_eq]; exact fun e => hc ⟨e.2, e.1⟩)]
      rfl
structure WF (T : Tq) (l : Int) : Prop extends WC T where
  g0 : ∀ i, i < 64 → 0 ≤ (T i).g
  gl : ∀ i, i < 64 → (T i).g ≤ l
  r : (T 0).g ≠ 0 ∧ (T 0).p < 0
  top : ∀ i, i < 64 → (T i).g ≠ 0 → (T i).p < 0 → i = 0
  d : ∀ i j, i < 64 → j < 64 → (T i).g ≠ 0 → (T j).g ≠ 0 → i ≠ j → 0 ≤ (T i).p → (T i).p = (T j).p → ∀ q, q < 1024 → (T i).s q = true → (T j).s q = false
theorem WF.nm {T : Tq} {l : Int} (h : WF T l) : Nm T := ⟨h.g0, fun i hi hg => by
  rcases h.p i hi hg with h1 | h1
  · omega
  · exact h1.2.1⟩
/-- One step of a tree: a generation that is gone does not come back. -/
def Stp (T : Tq) (l : Int) (T' : Tq) (l' : Int) : Prop := l ≤ l' ∧ l' ≤ l + 1 ∧ ∀ i, i < 64 → (T' i).g = (T i).g ∨ (T' i).g = 0 ∨ ((T i).g = 0 ∧ l < (T' i).g)
theorem Stp.refl (T : Tq) (l : Int) : Stp T l T l := ⟨Int.le_refl _, by omega, fun _ _ => .inl rfl⟩
theorem WP.sm {T U : Tq} (h : WP T) (hs : Sm T U) : WP U := ⟨fun i hi hg => by
  have h1 := h.p i hi ((hs i).1 ▸ hg)
  rw [← (hs i).2.1, ← (hs i).1, ← (hs _).1]
  exact h1⟩
theorem Sm.und {T U : Tq} (hs : Sm T U) {a x : Nat} (h : Und T a x) : Und U a x := by
  induction h with
  | kid x hx hg e => exact .kid x hx ((hs x).1 ▸ hg) ((hs x).2.1 ▸ e)
  | far x j hx hg e _ ih => exact .far x j hx ((hs x).1 ▸ hg) ((hs x).2.1 ▸ e) ih
theorem Sm.un {T U : Tq} (hs : Sm T U) (hT : WP T) (a : Nat) : Go.Proofs.Ytfegdehgnhomnaa.un U a = Go.Proofs.Ytfegdehgnhomnaa.un T a := funext fun x => by
  rw [Bool.eq_iff_iff, un_iff hT, un_iff (hT.sm hs)]
  exact ⟨hs.symm.und, hs.und⟩
theorem Sm.zap {T U : Tq} (hs : Sm T U) (D : Nat → Bool) : Sm (zap T D) (Go.Proofs.Ytfegdehgnhomnaa.zap U D) := fun x => by
  cases h : D x with
  | false => rw [zap_no h, zap_no h]; exact hs x
  | true => rw [zap_yes h, zap_yes h]; exact ⟨rfl, rfl, rfl⟩
theorem Al.zap {fr : List Chunk} {T : Tq} (h : Al fr T) (D : Nat → Bool) : Al fr (zap T D) := fun i hi => by
  cases hd : D i with
  | false => rw [zap_no hd]; exact h i hi
  | true => rw [zap_yes hd]; exact rds_nil' fr
theorem zap_wf {T : Tq} {l : Int} (hT : WF T l) {D : Nat → Bool} (hD : ∀ x y : Nat, x < 64 → (T x).g ≠ 0 → (T x).p = (y : Int) → D y = true → D x = true) (h0 : D 0 = false) : WF (zap T D) l ∧ Stp T l (zap T D) l := by
  have hal : ∀ i, (zap T D i).g ≠ 0 → D i = false := fun i hg => by
    cases h : D i with
    | false => rfl
    | true => rw [zap_yes h] at hg; exact absurd rfl hg
  refine ⟨⟨⟨zap_wp hT.toWP hD, fun i y hi hg e => ?_⟩, fun i hi => ?_, fun i hi => ?_, ?_, fun i hi hg hp => ?_, fun i j hi hj hg hg2 => ?_⟩, Int.le_refl _, by omega, fun i hi => ?_⟩
  · have h1 := hal i hg
    rw [zap_no h1] at hg e ⊢
    have h2 : D y = false := by
      cases h2 : D y with
      | false => rfl
      | true => rw [hD i y hi hg e h2] at h1; cases h1
    rw [zap_no h2]
    exact hT.w i y hi hg e
  · cases h : D i with
    | false => rw [zap_no h]; exact hT.g0 i hi
    | true => rw [zap_yes h]; exact Int.le_refl _
  · cases h : D i with
    | false => rw [zap_no h]; exact hT.gl i hi
    | true => rw [zap_yes h]; exact Int.le_trans (hT.g0 i hi) (hT.gl i hi)
  · rw [zap_no h0]; exact hT.r
  · have h1 := hal i hg
    rw [zap_no h1] at hg hp
    exact hT.top i hi hg hp
  · have h1 := hal i hg
    have h2 := hal j hg2
    rw [zap_no h1] at hg ⊢
    rw [zap_no h2] at hg2 ⊢
    exact hT.d i j hi hj hg hg2
  · cases h : D i with
    | false => rw [zap_no h]; exact .inl rfl
    | true => rw [zap_yes h]; exact .inr (.inl rfl)
theorem cutD_wf {S : Nat → Bool} {T : Tq} {l : Int} (hT : WF T l) {D : Nat → Bool} (hD : ∀ x y : Nat, x < 64 → (T x).g ≠ 0 → (T x).p = (y : Int) → D y = true → D x = true) : WF (cutD S T D) l ∧ Stp T l (cutD S T D) l := by
  have hag := cutD_ag S T D
  have hg3 : ∀ i, (cutD S T D i).g = (T i).g ∨ (cutD S T D i).g = 0 := fun i => by
    by_cases hg : (cutD S T D i).g = 0
    · exact .inr hg
    · exact .inl ((hag i).2 hg).1
  have hss : ∀ i q, (cutD S T D i).g ≠ 0 → (cutD S T D i).s q = true → (T i).s q = true := fun i q hg h => by
    cases hd : D i with
    | false => rw [cutD_no hd] at h; exact h
    | true =>
      rw [cutD_yes hd] at h hg
      rw [cutX_eq hg] at h
      have h : ((T i).s q && !S q) = true := h
      rw [Bool.and_eq_true] at h; exact h.1
  refine ⟨⟨cutD_wc hT.toWC hD, fun i hi => ?_, fun i hi => ?_, ?_, fun i hi hg hp => ?_, fun i j hi hj hg hg2 hne hp he q hq hs => ?_⟩, Int.le_refl _, by omega, fun i hi => ?_⟩
  · rcases hg3 i with h | h
    · rw [h]; exact hT.g0 i hi
    · omega
  · rcases hg3 i with h | h
    · rw [h]; exact hT.gl i hi
    · have := hT.g0 i hi; have := hT.gl i hi; omega
  · cases h : D 0 with
    | false => rw [cutD_no h]; exact hT.r
    | true =>
      rw [cutD_yes h, cutX_1 (fun e => by have := hT.r.2; omega)]
      exact hT.r
  · have h1 := (hag i).2 hg
    exact hT.top i hi (h1.1 ▸ hg) (h1.2 ▸ hp)
  · have h1 := (hag i).2 hg
    have h2 := (hag j).2 hg2
    have h3 := hT.d i j hi hj (h1.1 ▸ hg) (h2.1 ▸ hg2) hne (h1.2 ▸ hp) (by rw [← h1.2, ← h2.2]; exact he) q hq (hss i q hg hs)
    cases h4 : (cutD S T D j).s q with
    | false => rfl
    | true => rw [hss j q hg2 h4] at h3; cases h3
  · rcases hg3 i with h | h
    · exact .inl h
    · exact .inr (.inl h)
theorem un_down {T : Tq} (hT : WP T) {a : Nat} (x y : Nat) (hx : x < 64) (hg : (T x).g ≠ 0) (e : (T x).p = (y : Int)) (h : un T a y = true) : un T a x = true := (un_iff hT).2 (.far x y hx hg e ((un_iff hT).1 h))
theorem uns_down {T : Tq} (hT : WP T) {a : Nat} (x y : Nat) (hx : x < 64) (hg : (T x).g ≠ 0) (e : (T x).p = (y : Int)) (h : (decide (y = a) || un T a y) = true) : (decide (x = a) || un T a x) = true := by
  rw [Bool.or_eq_true, decide_eq_true_eq] at h ⊢
  refine .inr ?_
  rcases h with rfl | h
  · exact (un_iff hT).2 (.kid x hx hg e)
  · exact un_down hT x y hx hg e h
theorem un_root {T : Tq} {l : Int} (hT : WF T l) (a : Nat) : un T a 0 = false := (un_not hT.toWP).2 fun h => by
  have := hT.r.2
  cases h with
  | kid _ _ _ e => omega
  | far _ _ _ _ e _ => omega
/-! ### what is lent -/
theorem dl_iff {T : Tq} {a : Int} {q : Nat} : ∀ n, dl T a n q = true ↔ ∃ i, i < n ∧ (T i).g ≠ 0 ∧ (T i).p = a ∧ (T i).s q = true
  | 0 => ⟨fun h => (by cases h), fun ⟨i, hi, _⟩ => absurd hi (Nat.not_lt_zero _)⟩
  | n + 1 => by
    by_cases h : (T n).g ≠ 0 ∧ (T n).p = a
    · rw [← dl_yes h, lay0, Bool.or_eq_true, dl_iff n]
      constructor
      · rintro (⟨i, hi, h1⟩ | h1)
        · exact ⟨i, by omega, h1⟩
        · exact ⟨n, by omega, h.1, h.2, h1⟩
      · rintro ⟨i, hi, h1⟩
        by_cases e : i = n
        · subst e; exact .inr h1.2.2
        · exact .inl ⟨i, by omega, h1⟩
    · rw [dl_no h, dl_iff n]
      constructor
      · rintro ⟨i, hi, h1⟩; exact ⟨i, by omega, h1⟩
      · rintro ⟨i, hi, h1⟩
        have : i ≠ n := fun e => h (e ▸ ⟨h1.1, h1.2.1⟩)
        exact ⟨i, by omega, h1⟩
theorem ls_pre (T : Tq) (K M : List Nat) : ∀ k, k ≤ K.length → ls T (K ++ M) k = ls T K k
  | 0, _ => rfl
  | k + 1, h => by
    rw [← ls_succ, ← ls_succ, ls_pre T K M k (by omega)]
    rw [show (K ++ M).getD k 0 = K.getD k 0 by simp [List.getElem?_append_left (show k < K.length by omega)]]
theorem ls_dl (T : Tq) (a : Int) : ∀ n, ls T (kd' T a n) (kd' T a n).length = dl T a n
  | 0 => rfl
  | n + 1 => by
    by_cases h : (T n).g ≠ 0 ∧ (T n).p = a
    · rw [kd_yes h, List.length_append, List.length_singleton, ← ls_succ, ls_pre _ _ _ _ (Nat.le_refl _), ls_dl T a n, ← dl_yes h]
      rw [show (kd' T a n ++ [n]).getD (kd' T a n).length 0 = n by simp]
    · rw [kd_no h, dl_no h, ls_dl T a n]
theorem lnt_dl (T : Tq) (a : Int) : lnt T a = dl T a 64 := ls_dl T a 64
theorem Sm.dl {T U : Tq} (hs : Sm T U) (a : Int) : ∀ n, dl T a n = Go.Proofs.Ytfegdehgnhomnaa.dl U a n
  | 0 => rfl
  | n + 1 => by
    simp only [Go.Proofs.Ytfegdehgnhomnaa.dl]
    rw [hs.dl a n, (hs n).1, (hs n).2.1, (hs n).2.2]
theorem der_wf {T : Tq} {l a g : Int} {s : Nat → Bool} {q : Nat} {A : Option Addr} {c : Nat} (hT : WF T l) (hi : isN T a g) (hin : (al (layS 1 s (T a.toNat).s) 1024).length = 0) (hr : (al (layS 2 s (dl T a 64)) 1024).length = 0) (hq : q < 64) (hq0 : (T q).g = 0) :
    WF (upd T q ⟨l + 1, a, A, c, s⟩) (l + 1) ∧ Stp T l (upd T q ⟨l + 1, a, A, c, s⟩) (l + 1) := by
  obtain ⟨ha0, ha1, hg, hga⟩ := hi
  have ha : a.toNat < 64 := by omega
  have hae : a = (a.toNat : Int) := by omega
  have hgl := hT.gl
  have hg0 := hT.g0
  have haq : a.toNat ≠ q := fun e => hg (by rw [← hga, e]; exact hq0)
  have hq00 : q ≠ 0 := fun e => hT.r.1 (e ▸ hq0)
  have hl := hgl a.toNat ha
  have hl0 := hg0 a.toNat ha
  have hin' : ∀ j, j < 1024 → s j = true → (T a.toNat).s j = true := fun j hj h => by
    have := al_none.1 hin j hj
    rw [lay1, h] at this
    cases h2 : (T a.toNat).s j with
    | true => rfl
    | false => rw [h2] at this; cases this
  have hdj : ∀ i j, i < 64 → (T i).g ≠ 0 → (T i).p = a → j < 1024 → s j = true → (T i).s j = false := fun i j hi hgi hp hj h => by
    have h1 := al_none.1 hr j hj
    rw [lay2, h] at h1
    cases h2 : (T i).s j with
    | false => rfl
    | true => rw [(dl_iff 64).2 ⟨i, hi, hgi, hp, h2⟩] at h1; cases h1
  refine ⟨⟨⟨⟨fun i hi hgi => ?_⟩, fun i y hi hgi e => ?_⟩, fun i hi => ?_, fun i hi => ?_, ?_, fun i hi hgi hp => ?_, fun i j hi hj hgi hgj hne hp he k hk hs => ?_⟩, by omega, by omega, fun i hi => ?_⟩
  · by_cases e : i = q
    · subst e
      rw [upd_same]
      refine .inr ⟨ha0, ha1, ?_⟩
      show (upd T i _ a.toNat).g ≠ 0 ∧ (upd T i _ a.toNat).g < l + 1
      rw [upd_other _ haq]
      exact ⟨by rw [hga]; exact hg, by omega⟩
    · rw [upd_other _ e] at hgi ⊢
      rcases hT.p i hi hgi with h1 | h1
      · exact .inl h1
      · refine .inr ?_
        rw [upd_other _ (fun e2 => h1.2.2.1 (by rw [e2]; exact hq0))]
        exact h1
  · by_cases e1 : i = q
    · subst e1
      rw [upd_same] at e ⊢
      have e : a = (y : Int) := e
      have : y = a.toNat := by omega
      subst this
      rw [upd_other _ haq]
      exact hin'
    · rw [upd_other _ e1] at hgi e ⊢
      have h1 := hT.up hi hgi e
      rw [upd_other _ (fun e2 => h1.2.1 (by rw [e2]; exact hq0))]
      exact hT.w i y hi hgi e
  · by_cases e : i = q
    · subst e; rw [upd_same]; show 0 ≤ l + 1; omega
    · rw [upd_other _ e]; exact hg0 i hi
  · by_cases e : i = q
    · subst e; rw [upd_same]; exact Int.le_refl _
    · rw [upd_other _ e]; have := hgl i hi; omega
  · rw [upd_other _ (fun e => hq00 e.symm)]; exact hT.r
  · by_cases e : i = q
    · subst e; rw [upd_same] at hp
      have hp : a < 0 := hp
      omega
    · rw [upd_other _ e] at hgi hp; exact hT.top i hi hgi hp
  · by_cases e1 : i = q
    · subst e1
      have e2 : j ≠ i := fun e => hne e.symm
      rw [upd_same] at he hs
      rw [upd_other _ e2] at he hgj ⊢
      exact hdj j k hj hgj he.symm hk hs
    · rw [upd_other _ e1] at hgi hp he hs
      by_cases e2 : j = q
      · subst e2
        rw [upd_same] at he ⊢
        cases h3 : s k with
        | false => exact h3
        | true => rw [hdj i k hi hgi he hk h3] at hs; cases hs
      · rw [upd_other _ e2] at he hgj ⊢
        exact hT.d i j hi hj hgi hgj hne hp he k hk hs
  · by_cases e : i = q
    · subst e; rw [upd_same]; exact .inr (.inr ⟨hq0, by show l < l + 1; omega⟩)
    · rw [upd_other _ e]; exact .inl rfl
theorem free_or (T : Tq) : (∃ q, q < 64 ∧ (T q).g = 0 ∧ ∀ j, j < q → (T j).g ≠ 0) ∨ ∀ j, j < 64 → (T j).g ≠ 0 := by
  have : ∀ n, (∃ q, q < n ∧ (T q).g = 0 ∧ ∀ j, j < q → (T j).g ≠ 0) ∨ ∀ j, j < n → (T j).g ≠ 0 := by
    intro n
    induction n with
    | zero => exact .inr fun j hj => absurd hj (Nat.not_lt_zero _)
    | succ n ih =>
      rcases ih with ⟨q, h1, h2⟩ | h
      · exact .inl ⟨q, by omega, h2⟩
      · by_cases e : (T n).g = 0
        · exact .inl ⟨n, by omega, e, h⟩
        · refine .inr fun j hj => ?_
          by_cases e2 : j = n
          · subst e2; exact e
          · exact h j (by omega)
  exact this 64
/-! ### the document's lists once more -/
theorem dR_un {T : Tq} {a : Nat} (x : Nat) : (decide (x < 64) && dR T (a : Int) false x) = un T a x := by
  unfold dR un
  by_cases hg : (T x).g = 0
  · rw [undF_dead hg]; simp
  · simp [hg]
theorem dR_uns {T : Tq} {a : Nat} (ha : a < 64) (hga : (T a).g ≠ 0) (x : Nat) : (decide (x < 64) && dR T (a : Int) true x) = (decide (x = a) || un T a x) := by
  unfold dR un
  by_cases e : x = a
  · subst e; simp [ha, hga]
  · have e2 : ¬ (x : Int) = (a : Int) := by omega
    by_cases hg : (T x).g = 0
    · rw [undF_dead hg]; simp [e, e2]
    · simp [hg, e, e2]
theorem dC_uns {T : Tq} {a : Nat} (ha : a < 64) (x : Nat) : (decide (x < 64) && dC T (a : Int) x) = (decide (x = a) || un T a x) := by
  unfold dC un
  by_cases e : x = a
  · subst e; simp [ha]
  · have e2 : ¬ (x : Int) = (a : Int) := by omega
    simp [e, e2]
theorem dv_all {T : Tq} {l : Int} (hT : WF T l) (hl0 : 0 ≤ l) (hl1 : l < 18446744073709551615) (a g : Int) (hg : 0 ≤ g) (s : Nat → Bool) : ∃ (q gg e : Int) (T' : Tq) (l' : Int), WF T' l' ∧ Stp T l T' l' ∧
    (∀ (b : Nat) (Tp : Tq) (fr : List Chunk) (S : Option Addr) (sc : Nat), Sm T Tp → Al fr Tp → Rds fr S (rc (rws s)) → Does Try.prog 23 [.pointer (some ⟨b, 0, none⟩), cap a g, .agg #[.slice S (rws s).length sc]] (cells b 73 (tq Tp l) :: fr) (fun x : Tq => Sm T' x ∧ Al fr x) (fun _ => .tuple #[cap q gg, .int .i64 e]) (fun x => cells b 73 (tq x l') :: fr)) ∧
    (∀ (b nb : Nat) (fr : List Chunk), Does Try.prog 28 [.pointer (some ⟨b, 0, none⟩), .int .i64 a, .int .u64 g, .agg (bs s).toArray] (cells b 43 (dt nb l) :: cells nb 40 (dnn T) :: fr) (fun _ : Unit => True) (fun _ => .tuple #[.int .i64 q, .int .u64 gg, .int .i64 e]) (fun _ => cells b 43 (dt nb l') :: cells nb 40 (dnn T') :: fr)) := by
  have hD : ∀ (b nb : Nat) (fr : List Chunk), Rds (cells b 43 (dt nb l) :: cells nb 40 (dnn T) :: fr) (some ⟨b, 0, none⟩) (dt nb l) := fun b nb fr => cells_rds 0 rfl
  have hN : ∀ (b nb : Nat) (fr : List Chunk), Rds (cells b 43 (dt nb l) :: cells nb 40 (dnn T) :: fr) (some ⟨nb, 0, none⟩) (dnn T) := fun b nb fr => cells_rds 1 rfl
  by_cases hi : isN T a g
  rotate_left
  · refine ⟨0, 0, 3, T, l, hT, Stp.refl T l, fun b Tp fr S sc hs hal hS => ?_, fun b nb fr => dder_no T l a g b nb s _ (hD _ _ _) (hN _ _ _) hg hi⟩
    exact (derive_no Tp l a g b s S sc fr (fun e => hi (hs.symm.isN e))).post fun _ _ => ⟨Tp, ⟨hs, hal⟩, rfl, fun _ _ h => h⟩
  by_cases h1 : (al s 1024).length = 0
  · refine ⟨0, 0, 1, T, l, hT, Stp.refl T l, fun b Tp fr S sc hs hal hS => ?_, fun b nb fr => dder_arg T l a g b nb s _ (hD _ _ _) (hN _ _ _) hg hi h1⟩
    exact (derive_arg Tp l a g b s S sc fr hS (hs.isN hi) h1).post fun _ _ => ⟨Tp, ⟨hs, hal⟩, rfl, fun _ _ h => h⟩
  by_cases h2 : (al (layS 1 s (T a.toNat).s) 1024).length = 0
  rotate_left
  · refine ⟨0, 0, 2, T, l, hT, Stp.refl T l, fun b Tp fr S sc hs hal hS => ?_, fun b nb fr => dder_perm T l a g b nb s _ (hD _ _ _) (hN _ _ _) hg hi h1 h2⟩
    exact (derive_perm Tp l a g b s S sc fr hal hS (hs.isN hi) h1 (by rw [← (hs _).2.2]; exact h2)).post fun _ _ => ⟨Tp, ⟨hs, hal⟩, rfl, fun _ _ h => h⟩
  have hlp : ∀ Tp, Sm T Tp → layS 2 s (lnt Tp a) = layS 2 s (dl T a 64) := fun Tp hs => by rw [lnt_dl, hs.dl]
  by_cases h3 : (al (layS 2 s (dl T a 64)) 1024).length = 0
  rotate_left
  · refine ⟨0, 0, 24, T, l, hT, Stp.refl T l, fun b Tp fr S sc hs hal hS => ?_, fun b nb fr => dder_busy T l a g b nb s _ (hD _ _ _) (hN _ _ _) hT.nm hg hi h1 h2 h3⟩
    exact (derive_busy Tp l a g b s _ S sc fr hal hS (hs.isN hi) h1 (by rw [← (hs _).2.2]; exact h2) (hlp Tp hs) h3).post fun _ _ => ⟨Tp, ⟨hs, hal⟩, rfl, fun _ _ h => h⟩
  rcases free_or T with ⟨q, hq, hq0, hqj⟩ | hqj
  · have hw := der_wf (A := none) (c := 0) hT hi h2 h3 hq hq0
    refine ⟨q, l + 1, 0, upd T q ⟨l + 1, a, none, 0, s⟩, l + 1, hw.1, hw.2, fun b Tp fr S sc hs hal hS => ?_, fun b nb fr => dder_ok T l a g b nb s none 0 fr hT.nm hg hi h1 h2 h3 q hq hq0 hqj hl0 hl1⟩
    exact (derive_ok Tp l a g b s _ S sc fr hal hS (hs.isN hi) h1 (by rw [← (hs _).2.2]; exact h2) (hlp Tp hs) h3 q hq (by rw [← (hs q).1]; exact hq0) (fun j hj => by rw [← (hs j).1]; exact hqj j hj) hl0 hl1).post fun _ _ => ⟨upd Tp q ⟨l + 1, a, S, sc, s⟩, ⟨hs.upd q ⟨rfl, rfl, rfl⟩, hal.upd hS⟩, rfl, fun _ _ h => h⟩
  · refine ⟨0, 0, 5, T, l, hT, Stp.refl T l, fun b Tp fr S sc hs hal hS => ?_, fun b nb fr => dder_full T l a g b nb s _ (hD _ _ _) (hN _ _ _) hT.nm hg hi h1 h2 h3 hqj⟩
    exact (derive_full Tp l a g b s _ S sc fr hal hS (hs.isN hi) h1 (by rw [← (hs _).2.2]; exact h2) (hlp Tp hs) h3 (fun j hj => by rw [← (hs j).1]; exact hqj j hj)).post fun _ _ => ⟨Tp, ⟨hs, hal⟩, rfl, fun _ _ h => h⟩
theorem isN_at {T : Tq} {a : Nat} {g : Int} (h : isN T a g) : a < 64 ∧ (T a).g = g ∧ (T a).g ≠ 0 := by
  obtain ⟨h0, h1, h2, h3⟩ := h
  rw [Int.toNat_natCast] at h3
  exact ⟨by omega, h3, by rw [h3]; exact h2⟩
theorem rv_all {T : Tq} {l : Int} (hT : WF T l) (a : Nat) (g : Int) (hi : isN T a g) : ∃ (n : Nat) (T' : Tq), n ≤ 64 ∧ WF T' l ∧ Stp T l T' l ∧
    (∀ (b : Nat) (Tp : Tq) (fr : List Chunk), Sm T Tp → Al fr Tp → Does Try.prog 24 [.pointer (some ⟨b, 0, none⟩), cap a g] (cells b 73 (tq Tp l) :: fr) (fun x : Tq => Sm T' x ∧ Al fr x) (fun _ => .tuple #[.int .i64 n, .int .i64 0]) (fun x => cells b 73 (tq x l) :: fr)) ∧
    (∀ (b nb : Nat) (fr : List Chunk), Does Try.prog 29 [.pointer (some ⟨b, 0, none⟩), .int .i64 a, .bool false] (cells b 43 (dt nb l) :: cells nb 40 (dnn T) :: fr) (fun _ : Unit => True) (fun _ => .int .i64 n) (fun _ => cells b 43 (dt nb l) :: cells nb 40 (dnn T') :: fr)) := by
  obtain ⟨ha, hga, hg⟩ := isN_at hi
  have hwp := hT.toWP
  have hz := zap_wf hT (D := un T a) (un_down hwp) (un_root hT a)
  have hn := al_le (un T a) 64
  have hE : (fun x => decide (x < 64) && dR T (a : Int) false x) = un T a := funext fun x => dR_un x
  have hlen : (al (dR T (a : Int) false) 64).length = (al (un T a) 64).length := by rw [al_congr (E := un T a) 64 fun x hx => by rw [← dR_un x, decide_eq_true hx, Bool.true_and]]
  refine ⟨(al (un T a) 64).length, zap T (un T a), hn, hz.1, hz.2, fun b Tp fr hs hal => ?_, fun b nb fr => ?_⟩
  · have hgp : (Tp a).g = g := by rw [← (hs a).1]; exact hga
    have h1 := rv_main (up Tp a + 1) Tp a (hwp.sm hs) ha (by rw [← (hs a).1]; exact hg) (Nat.lt_succ_self _)
    rw [hs.un hwp, hgp] at h1
    have h2 := (revoke_c l b _ Tp a g _ _ h1 (by omega)).frame fr
    rw [if_pos (hs.isN hi)] at h2
    exact h2.post fun _ _ => ⟨zap Tp (un T a), ⟨hs.zap _, hal.zap _⟩, rfl, fun _ _ h => h⟩
  · have h1 := drev_c T l (a : Int) false b nb fr hT.nm
    rw [zl_all, hE, hlen] at h1
    exact h1
theorem dp_all {T : Tq} {l : Int} (hT : WF T l) (a : Nat) (g : Int) (hi : isN T a g) (ha0 : a ≠ 0) : ∃ (n : Nat) (T' : Tq), n ≤ 65 ∧ WF T' l ∧ Stp T l T' l ∧
    (∀ (b : Nat) (Tp : Tq) (fr : List Chunk), Sm T Tp → Al fr Tp → Does Try.prog 25 [.pointer (some ⟨b, 0, none⟩), cap a g] (cells b 73 (tq Tp l) :: fr) (fun x : Tq => Sm T' x ∧ Al fr x) (fun _ => .tuple #[.int .i64 n, .int .i64 0]) (fun x => cells b 73 (tq x l) :: fr)) ∧
    (∀ (b nb : Nat) (fr : List Chunk), Does Try.prog 29 [.pointer (some ⟨b, 0, none⟩), .int .i64 a, .bool true] (cells b 43 (dt nb l) :: cells nb 40 (dnn T) :: fr) (fun _ : Unit => True) (fun _ => .int .i64 n) (fun _ => cells b 43 (dt nb l) :: cells nb 40 (dnn T') :: fr)) := by
  obtain ⟨ha, hga, hg⟩ := isN_at hi
  have hwp := hT.toWP
  have hp0 : 0 ≤ (T a).p := Int.not_lt.1 fun e => ha0 (hT.top a ha hg e)
  have hz := zap_wf hT (D := fun x => decide (x = a) || un T a x) (uns_down hwp) (by rw [un_root hT a]; simp; exact fun e => ha0 e.symm)
  have hn := al_le (un T a) 64
  have hE : (fun x => decide (x < 64) && dR T (a : Int) true x) = (fun x => decide (x = a) || un T a x) := funext fun x => dR_uns ha hg x
  have hlen : (al (dR T (a : Int) true) 64).length = (al (un T a) 64).length + 1 := by
    rw [al_congr 64 (E := fun x => un T a x || decide (x = a)) fun x hx => by rw [Bool.or_comm, ← dR_uns ha hg x, decide_eq_true hx, Bool.true_and], al_len_or 64 (fun x _ h => ?_), al_len_one, if_pos ha]
    rw [decide_eq_false_iff_not]
    intro e; subst e
    rw [un_self hwp] at h; cases h
  refine ⟨(al (un T a) 64).length + 1, zap T (fun x => decide (x = a) || un T a x), by omega, hz.1, hz.2, fun b Tp fr hs hal => ?_, fun b nb fr => ?_⟩
  · have hgp : (Tp a).g = g := by rw [← (hs a).1]; exact hga
    have h1 := rv_main (up Tp a + 1) Tp a (hwp.sm hs) ha (by rw [← (hs a).1]; exact hg) (Nat.lt_succ_self _)
    rw [hs.un hwp, hgp] at h1
    have h2 := revoke_c l b _ Tp a g _ _ h1 (by omega)
    rw [if_pos (hs.isN hi)] at h2
    have h3 := (drop_ok Tp _ l g a _ b (hs.isN hi) (by rw [← (hs a).2.1]; exact hp0) (by omega) h2).frame fr
    have e1 : upd (zap Tp (un T a)) a Cq.zero = zap Tp (fun x => decide (x = a) || un T a x) := by
      funext x
      by_cases e : x = a
      · subst e; rw [upd_same, zap_yes (by simp)]
      · rw [upd_other _ e]
        cases h : un T a x with
        | true => rw [zap_yes h, zap_yes (by simp [h])]
        | false => rw [zap_no h, zap_no (by simp [h, e])]
    rw [e1] at h3
    exact h3.post fun _ _ => ⟨zap Tp (fun x => decide (x = a) || un T a x), ⟨hs.zap _, hal.zap _⟩, rfl, fun _ _ h => h⟩
  · have h1 := drev_c T l (a : Int) true b nb fr hT.nm
    rw [zl_all, hE, hlen] at h1
    exact h1
theorem ct_all {T : Tq} {l : Int} (hT : WF T l) (a : Nat) (g : Int) (hi : isN T a g) (S : Nat → Bool) : ∃ (n : Nat) (T' : Tq), n ≤ 64 ∧ WF T' l ∧ Stp T l T' l ∧ T' = cutD S T (fun x => decide (x = a) || un T a x) ∧ n = (al (fun x => (decide (x = a) || un T a x) && had S T x) 64).length ∧
    (∀ (b : Nat) (Tp : Tq) (fr : List Chunk) (Sx : Option Addr) (sc : Nat), Sm T Tp → Al fr Tp → Rds fr Sx (rc (rws S)) → Does Try.prog 22 [.pointer (some ⟨b, 0, none⟩), cap a g, .agg #[.slice Sx (rws S).length sc]] (cells b 73 (tq Tp l) :: fr) (fun x : Tq × List Chunk => Sm T' x.1 ∧ Al (x.2 ++ fr) x.1) (fun _ => .tuple #[.int .i64 n, .int .i64 0]) (fun x => cells b 73 (tq x.1 l) :: (x.2 ++ fr))) ∧
    (∀ (b nb : Nat) (fr : List Chunk), Does Try.prog 30 [.pointer (some ⟨b, 0, none⟩), .int .i64 a, .agg (bs S).toArray] (cells b 43 (dt nb l) :: cells nb 40 (dnn T) :: fr) (fun _ : Unit => True) (fun _ => .int .i64 n) (fun _ => cells b 43 (dt nb l) :: cells nb 40 (dnn T') :: fr)) := by
  obtain ⟨ha, hga, hg⟩ := isN_at hi
  have hwp := hT.toWP
  have hz := cutD_wf (S := S) hT (D := fun x => decide (x = a) || un T a x) (uns_down hwp)
  have hn := al_le (fun x => (decide (x = a) || un T a x) && had S T x) 64
  have h1 := ct_main S (up T a + 1) T a hT.toWC ha hg (Nat.lt_succ_self _)
  rw [hga] at h1
  have hE : (fun x => decide (x < 64) && dC T (a : Int) x) = (fun x => decide (x = a) || un T a x) := funext fun x => dC_uns ha x
  have hlen : (al (fun x => dC T (a : Int) x && had S T x) 64).length = (al (fun x => (decide (x = a) || un T a x) && had S T x) 64).length := by rw [al_congr (E := fun x => (decide (x = a) || un T a x) && had S T x) 64 fun x hx => by rw [← dC_uns ha x, decide_eq_true hx, Bool.true_and]]
  refine ⟨_, _, hn, hz.1, hz.2, rfl, rfl, fun b Tp fr Sx sc hs hal hS => ?_, fun b nb fr => ?_⟩
  · have h2 := cut_c l b S Sx sc _ T a g _ _ h1 (by omega) Tp fr hs hal hS
    rw [if_pos hi] at h2
    exact h2
  · have h2 := dcut_c T l (a : Int) S b nb fr hT.nm _ rfl _ rfl
    rw [(cut_doc S T (dC T (a : Int))).1, (cut_doc S T (dC T (a : Int))).2, hE, hlen] at h2
    exact h2
theorem inS_iff {s : Nat → Bool} {j : Int} : inS s j = true ↔ 0 ≤ j ∧ j < 1024 ∧ s j.toNat = true := by
  unfold inS
  rw [Bool.and_eq_true, Bool.and_eq_true, decide_eq_true_eq, decide_eq_true_eq, and_assoc]
theorem inS_off {s : Nat → Bool} {j : Int} (h : inS s j ≠ true) : inS s j = false := by
  cases e : inS s j with
  | false => rfl
  | true => exact absurd e h
structure Ch (T : Tq) (q : Int) (L : List Nat) : Prop where
  a : ∀ i, i < L.length → L.getD i 0 < 64 ∧ (T (L.getD i 0)).g ≠ 0 ∧ inS (T (L.getD i 0)).s q = true
  z : 0 < L.length → L.getD 0 0 = 0
  c : ∀ i, i + 1 < L.length → (T (L.getD (i + 1) 0)).p = (L.getD i 0 : Nat)
theorem ch_nil (T : Tq) (q : Int) : Ch T q [] := ⟨fun i h => absurd h (Nat.not_lt_zero _), fun h => absurd h (Nat.lt_irrefl _), fun i h => absurd h (Nat.not_lt_zero _)⟩
theorem getD_l {L M : List Nat} {i : Nat} (h : i < L.length) : (L ++ M).getD i 0 = L.getD i 0 := by simp [List.getElem?_append_left h]
theorem getD_at {L : List Nat} {i : Nat} (h : i < L.length) : L.getD i 0 = L[i] := by simp [List.getElem?_eq_getElem h]
theorem getD_e {L : List Nat} {x : Nat} : (L ++ [x]).getD L.length 0 = x := by simp
/-- Where the next one of a chain stands. -/
def Lk (T : Tq) (q : Int) (L : List Nat) (x : Nat) : Prop := (L = [] ∧ x = 0) ∨ (0 < L.length ∧ (T x).p = (L.getD (L.length - 1) 0 : Nat))
theorem ch_add {T : Tq} {q : Int} {L : List Nat} {x : Nat} (h : Ch T q L) (hx : x < 64) (hg : (T x).g ≠ 0) (hq : inS (T x).s q = true) (hl : Lk T q L x) : Ch T q (L ++ [x]) := by
  refine ⟨fun i hi => ?_, fun _ => ?_, fun i hi => ?_⟩
  · rw [List.length_append, List.length_singleton] at hi
    by_cases e : i < L.length
    · rw [getD_l e]; exact h.a i e
    · obtain rfl : i = L.length := by omega
      rw [getD_e]; exact ⟨hx, hg, hq⟩
  · rcases hl with ⟨rfl, rfl⟩ | ⟨h0, _⟩
    · rfl
    · rw [getD_l h0]; exact h.z h0
  · rw [List.length_append, List.length_singleton] at hi
    rw [getD_l (i := i) (by omega)]
    by_cases e : i + 1 < L.length
    · rw [getD_l e]; exact h.c i e
    · obtain e : i + 1 = L.length := by omega
      rw [e, getD_e]
      rcases hl with ⟨rfl, _⟩ | ⟨h0, h1⟩
      · simp at e
      · rw [h1, show i = L.length - 1 by omega]
theorem ch_add_lk {T : Tq} {q : Int} {L : List Nat} {x y : Nat} (h : (T y).p = (x : Int)) : Lk T q (L ++ [x]) y := .inr ⟨by simp, by rw [h, List.length_append, List.length_singleton, Nat.add_sub_cancel, getD_e]⟩
/-- All who have a number are in a chain. -/
def Cp (T : Tq) (q : Int) (L : List Nat) : Prop := ∀ x, x < 64 → (T x).g ≠ 0 → inS (T x).s q = true → ∃ i, i < L.length ∧ L.getD i 0 = x
theorem ch_done {T : Tq} {l : Int} (hT : WF T l) {q : Int} {L : List Nat} (h : Ch T q L) (h0 : L = [] → inS (T 0).s q = false) (h1 : 0 < L.length → ∀ x, x < 64 → (T x).g ≠ 0 → (T x).p = (L.getD (L.length - 1) 0 : Nat) → inS (T x).s q = false) : Cp T q L := by
  have : ∀ (n : Nat) x, (T x).g.toNat < n → x < 64 → (T x).g ≠ 0 → inS (T x).s q = true → ∃ i, i < L.length ∧ L.getD i 0 = x := by
    intro n
    induction n with
    | zero => intro x hx; exact absurd hx (Nat.not_lt_zero _)
    | succ n ih =>
      intro x hn hx hg hq
      by_cases hp : (T x).p < 0
      · obtain rfl := hT.top x hx hg hp
        by_cases e : L = []
        · rw [h0 e] at hq; cases hq
        · have hl : 0 < L.length := Nat.pos_of_ne_zero fun h => e (List.eq_nil_of_length_eq_zero h)
          exact ⟨0, hl, h.z hl⟩
      · have hpe : (T x).p = ((T x).p.toNat : Int) := by omega
        obtain ⟨hy, hgy, hlt⟩ := hT.up hx hg hpe
        obtain ⟨hq0, hq1, hqs⟩ := inS_iff.1 hq
        have hqy : inS (T (T x).p.toNat).s q = true := inS_iff.2 ⟨hq0, hq1, hT.w x _ hx hg hpe q.toNat (by omega) hqs⟩
        have hgp := hT.g0 (T x).p.toNat hy
        obtain ⟨j, hj, hjy⟩ := ih _ (by omega) hy hgy hqy
        by_cases e : j + 1 < L.length
        · refine ⟨j + 1, e, ?_⟩
          have hc := h.c j e
          obtain ⟨ha, hb, hd⟩ := h.a (j + 1) e
          refine Classical.byContradiction fun hne => ?_
          have := hT.d x _ hx ha hg hb (fun e2 => hne e2.symm) (by omega) (by rw [hc, hpe, hjy]) q.toNat (by omega) hqs
          rw [(inS_iff.1 hd).2.2] at this; cases this
        · have := h1 (by omega) x hx hg (by rw [hpe, ← hjy, show j = L.length - 1 by omega])
          rw [this] at hq; cases hq
  exact fun x hx hg hq => this _ x (Nat.lt_succ_self _) hx hg hq
theorem ch_inc {T : Tq} {l : Int} (hT : WF T l) {q : Int} {L : List Nat} (h : Ch T q L) {i : Nat} : ∀ j, i < j → j < L.length → (T (L.getD i 0)).g < (T (L.getD j 0)).g
  | 0, hi, _ => absurd hi (Nat.not_lt_zero _)
  | j + 1, hi, hj => by
    obtain ⟨ha, hb, _⟩ := h.a (j + 1) hj
    have h1 := (hT.up ha hb (h.c j hj)).2.2
    by_cases e : i = j
    · subst e; exact h1
    · have := ch_inc hT h (i := i) j (by omega) (by omega)
      omega
theorem ch_nodup {T : Tq} {l : Int} (hT : WF T l) {q : Int} {L : List Nat} (h : Ch T q L) : L.Nodup := by
  rw [List.Nodup, List.pairwise_iff_getElem]
  intro i j hi hj hij e
  have h1 := ch_inc hT h j hij hj
  rw [getD_at hi, getD_at hj, e] at h1
  exact absurd h1 (Int.lt_irrefl _)
theorem ch_le {T : Tq} {l : Int} (hT : WF T l) {q : Int} {L : List Nat} (h : Ch T q L) : L.length ≤ 64 := by
  have hp : (L.map (fun i : Nat => (i : Int))).Perm (al (fun x => decide (x ∈ L)) 64) := by
    refine perm_of_nodup ?_ ?_ fun a => ?_
    · have := ch_nodup hT h
      rw [List.Nodup, List.pairwise_map]
      exact this.imp fun {a b} hab e => hab (by omega)
    · exact (al_sorted _ 64).imp fun {a b} hab e => by omega
    · rw [al_mem, List.mem_map, decide_eq_true_eq]
      constructor
      · rintro ⟨x, hx, rfl⟩
        obtain ⟨i, hi, e⟩ := List.mem_iff_getElem.1 hx
        have := (h.a i hi).1
        rw [getD_at hi, e] at this
        rw [Int.toNat_natCast]
        exact ⟨by omega, by omega, hx⟩
      · rintro ⟨h0, h1, h2⟩
        exact ⟨a.toNat, h2, by omega⟩
  have := hp.length_eq
  rw [List.length_map] at this
  have h2 := al_le (fun x => decide (x ∈ L)) 64
  omega
/-- Who has a number. -/
def hv (T : Tq) (q : Int) : Nat → Bool := fun x => decide ((T x).g ≠ 0) && inS (T x).s q
theorem hv_iff {T : Tq} {q : Int} {x : Nat} : hv T q x = true ↔ (T x).g ≠ 0 ∧ inS (T x).s q = true := by
  unfold hv
  rw [Bool.and_eq_true, decide_eq_true_eq]
theorem ch_len {T : Tq} {l : Int} (hT : WF T l) {q : Int} {L : List Nat} (h : Ch T q L) (hc : Cp T q L) : L.length = (al (hv T q) 64).length := by
  have hp : (L.map (fun i : Nat => (i : Int))).Perm (al (hv T q) 64) := by
    refine perm_of_nodup ?_ ?_ fun a => ?_
    · have := ch_nodup hT h
      rw [List.Nodup, List.pairwise_map]
      exact this.imp fun {a b} hab e => hab (by omega)
    · exact (al_sorted (hv T q) 64).imp fun {a b} hab e => by omega
    · rw [al_mem, List.mem_map, hv_iff]
      constructor
      · rintro ⟨x, hx, rfl⟩
        obtain ⟨i, hi, rfl⟩ := List.mem_iff_getElem.1 hx
        have := h.a i hi
        rw [getD_at hi] at this
        rw [Int.toNat_natCast]
        exact ⟨by omega, by omega, this.2⟩
      · rintro ⟨h0, h1, h2, h3⟩
        obtain ⟨i, hi, hx⟩ := hc a.toNat (by omega) h2 h3
        rw [getD_at hi] at hx
        exact ⟨a.toNat, hx ▸ List.getElem_mem hi, by omega⟩
  have := hp.length_eq
  rw [List.length_map] at this
  exact this
/-- All that is alive is the first one, or under it. -/
theorem all_un {T : Tq} {l : Int} (hT : WF T l) : ∀ (n : Nat) (x : Nat), (T x).g.toNat < n → x < 64 → (T x).g ≠ 0 → x = 0 ∨ un T 0 x = true
  | 0, x, hx, _, _ => absurd hx (Nat.not_lt_zero _)
  | n + 1, x, hn, hx, hg => by
    by_cases hp : (T x).p < 0
    · exact .inl (hT.top x hx hg hp)
    · have hpe : (T x).p = ((T x).p.toNat : Int) := by omega
      obtain ⟨hy, hgy, hlt⟩ := hT.up hx hg hpe
      have hgp := hT.g0 (T x).p.toNat hy
      refine .inr ?_
      rcases all_un hT n _ (by omega) hy hgy with e | e
      · exact (un_iff hT.toWP).2 (.kid x hx hg (by rw [hpe, e]))
      · exact un_down hT.toWP x _ hx hg hpe e
theorem had_in {T : Tq} {q : Int} (h0 : 0 ≤ q) (h1 : q < 1024) (x : Nat) : had (ofS q (q + 1)) T x = inS (T x).s q := by
  rw [Bool.eq_iff_iff, inS_iff]
  unfold had
  rw [decide_eq_true_eq]
  constructor
  · intro h
    refine ⟨h0, h1, Classical.byContradiction fun e => h (al_none.2 fun j hj => ?_)⟩
    rw [lay2]
    unfold ofS
    by_cases e1 : (j : Int) = q
    · rw [show j = q.toNat by omega, Bool.eq_false_iff.2 e]; rfl
    · have : (decide (q ≤ (j : Int)) && decide ((j : Int) < q + 1)) = false := by
        by_cases e2 : q ≤ (j : Int)
        · rw [decide_eq_false (p := (j : Int) < q + 1) (by omega), Bool.and_false]
        · rw [decide_eq_false e2, Bool.false_and]
      simp only [this, Bool.and_false, Bool.false_and]
  · rintro ⟨_, _, h⟩ e
    have := al_none.1 e q.toNat (by omega)
    rw [lay2, h] at this
    unfold ofS at this
    rw [show ((q.toNat : Nat) : Int) = q by omega, decide_eq_true (Int.le_refl q), decide_eq_true (show q < q + 1 by omega)] at this
    simp only [Bool.and_true, Bool.true_and] at this
    first | cases this | (rw [decide_eq_true h0, decide_eq_true h1] at this; cases this)
theorem cut_n {T : Tq} {l : Int} (hT : WF T l) {q : Int} (h0 : 0 ≤ q) (h1 : q < 1024) : (al (fun x => (decide (x = 0) || un T 0 x) && had (ofS q (q + 1)) T x) 64).length = (al (hv T q) 64).length := by
  rw [al_congr (E := hv T q) 64 fun x hx => ?_]
  show ((decide (x = 0) || un T 0 x) && had (ofS q (q + 1)) T x) = (decide ((T x).g ≠ 0) && inS (T x).s q)
  rw [had_in h0 h1]
  congr 1
  rw [Bool.eq_iff_iff, Bool.or_eq_true, decide_eq_true_eq, decide_eq_true_eq]
  constructor
  · rintro (rfl | h)
    · exact hT.r.1
    · exact ((un_iff hT.toWP).1 h).alive
  · exact all_un hT _ x (Nat.lt_succ_self _) hx
theorem cut_gone {T : Tq} {l : Int} (hT : WF T l) {q : Int} (h0 : 0 ≤ q) (h1 : q < 1024) {D : Nat → Bool} (hD : D 0 = true) : inS (cutD (ofS q (q + 1)) T D 0).s q = false := by
  rw [cutD_yes hD, cutX_1 (fun e => by have := hT.r.2; omega)]
  refine inS_off fun e => ?_
  have h2 := (inS_iff.1 e).2.2
  have h2 : layS 1 (T 0).s (ofS q (q + 1)) q.toNat = true := h2
  rw [lay1] at h2
  have h3 : ofS q (q + 1) q.toNat = true := by
    unfold ofS
    rw [show ((q.toNat : Nat) : Int) = q by omega, decide_eq_true (Int.le_refl q), decide_eq_true (show q < q + 1 by omega)]
    first | rfl | (rw [decide_eq_true h0, decide_eq_true h1]; rfl)
  rw [h3] at h2
  simp at h2
theorem ch_empty {T : Tq} {q : Int} {L : List Nat} (h : Ch T q L) (h0 : inS (T 0).s q = false) : L.length = 0 := Classical.byContradiction fun e => by
  have hl : 0 < L.length := Nat.pos_of_ne_zero e
  have h1 := (h.a 0 hl).2.2
  rw [h.z hl, h0] at h1; cases h1
theorem ch_off {T : Tq} {q : Int} {L : List Nat} (h : Ch T q L) (hq : q < 0 ∨ 1023 < q) : L.length = 0 := ch_empty h (inS_off fun e => by have := inS_iff.1 e; omega)
theorem Sm.kc {T U : Tq} (hs : Sm T U) : ∀ K : List Nat, kc T K = Go.Proofs.Ytfegdehgnhomnaa.kc U K
  | [] => rfl
  | i :: K => by
    show kc1 T i ++ Go.Proofs.Ytfegdehgnhomnaa.kc T K = kc1 U i ++ Go.Proofs.Ytfegdehgnhomnaa.kc U K
    rw [hs.kc K]
    unfold kc1
    rw [(hs i).1]
end Go.Proofs.Ytfegdehgnhomnaa
