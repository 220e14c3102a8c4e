/-
Names, plain: tables of which no number is meant twice; through one another; the set of all that is meant.
-/
import Derived.Test.YtjjhlkjnjbagfaaNaN
import Derived.Test.YtjjhlkjnjbagfaaSpQ
namespace Go.Proofs.Ytjjhlkjnjbagfaa
set_option linter.unusedVariables false
set_option linter.unusedSimpArgs false
open Eng
/-- No number twice. -/
def Nd (L : List Int) : Prop := ∀ i j, i < j → j < L.length → L.getD i 0 = L.getD j 0 → L.getD i 0 = -1
theorem nd_nil : Nd [] := fun i j _ h => by simp at h
theorem nd_set {L : List Int} (h : Nd L) {k : Nat} (hk : k < L.length) {x : Int} (hx : x = -1 ∨ ∀ j, j < L.length → L.getD j 0 ≠ x) : Nd (L.set k x) := fun i j hij hj he => by
  rw [List.length_set] at hj
  rw [getD_set L k i x hk, getD_set L k j x hk] at he
  rw [getD_set L k i x hk]
  by_cases a : i = k
  · rw [if_pos a] at he ⊢
    rw [if_neg (by omega)] at he
    rcases hx with hx | hx
    · exact hx
    · exact absurd he.symm (hx j hj)
  · rw [if_neg a] at he ⊢
    by_cases b : j = k
    · rw [if_pos b] at he
      rcases hx with hx | hx
      · rw [he]; exact hx
      · exact absurd he (hx i (by omega))
    · rw [if_neg b] at he
      exact h i j hij hj he
theorem getD_app (L : List Int) (x : Int) (j : Nat) : (L ++ [x]).getD j 0 = if j < L.length then L.getD j 0 else if j = L.length then x else 0 := by
  simp only [List.getD_eq_getElem?_getD]
  by_cases h : j < L.length
  · rw [if_pos h, List.getElem?_append_left h]
  · rw [if_neg h]
    by_cases e : j = L.length
    · subst e; simp
    · rw [if_neg e, List.getElem?_eq_none (by simp; omega)]; rfl
theorem nd_app {L : List Int} (h : Nd L) {x : Int} (hx : ∀ j, j < L.length → L.getD j 0 ≠ x) : Nd (L ++ [x]) := fun i j hij hj he => by
  rw [List.length_append, List.length_singleton] at hj
  rw [getD_app, getD_app] at he
  rw [getD_app]
  rw [if_pos (show i < L.length by omega)] at he ⊢
  by_cases b : j < L.length
  · rw [if_pos b] at he; exact h i j hij b he
  · rw [if_neg b, if_pos (by omega)] at he
    exact absurd he (hx i (by omega))
theorem nd_add {L L' : List Int} {n : Int} {k : Nat} (h : Nd L) (ha : addL L n = some (L', k)) : Nd L' := by
  unfold addL at ha
  split at ha
  · cases ha
  · rename_i hn
    have hno : fi L n = none := by
      cases hf : fi L n with
      | none => rfl
      | some q => exact absurd (.inr (.inr (by rw [hf]; rfl))) hn
    split at ha
    · rename_i i hi
      cases ha
      exact nd_set h (fi_inv hi).1 (.inr (fi_no hno))
    · split at ha
      · cases ha
      · cases ha
        exact nd_app h (fi_no hno)
theorem nd_dr {L L' : List Int} {i : Int} (h : Nd L) (ha : drL L i = some L') : Nd L' := by
  by_cases hg : 0 ≤ gt L i
  · obtain ⟨hd, h0, h1, _⟩ := dr_yes hg
    rw [hd] at ha; cases ha
    exact nd_set h (by omega) (.inl rfl)
  · rw [dr_no (by omega)] at ha; cases ha
theorem nd_dee {L : List Int} (h : Nd L) (d : Dn) : Nd (dee L d) := by
  unfold dee
  split
  · split
    · rename_i p hp; obtain ⟨a, b⟩ := p; exact nd_add h hp
    · exact h
  · split
    · rename_i M hM; exact nd_dr h hM
    · exact h
theorem nd_mk (D : List Dn) : ∀ n, Nd (mk D n)
  | 0 => nd_nil
  | n + 1 => by
    cases hd : D[n]? with
    | none =>
      have : mk D (n + 1) = mk D n := by simp only [mk]; rw [hd]
      rw [this]; exact nd_mk D n
    | some d => rw [mk_succ hd]; exact nd_dee (nd_mk D n) d
/-! ### Through -/
def thr (L M : List Int) : List Int := L.map (gt M)
theorem thr_len (L M : List Int) : (thr L M).length = L.length := List.length_map _
theorem thr_at {L M : List Int} {j : Nat} (h : j < L.length) : (thr L M).getD j 0 = gt M (L.getD j 0) := by
  unfold thr; simp [h]
theorem gt_neg (L : List Int) : gt L (-1) = -1 := gt_out (by omega)
theorem gt_rng {L : List Int} (h : Nm L) (i : Int) : -1 ≤ gt L i ∧ gt L i ≤ 1023 := by
  by_cases hi : 0 ≤ i ∧ i < L.length
  · rw [gt_in hi]; exact h.v _ (by omega)
  · rw [gt_out hi]; omega
theorem Nm.thr {L M : List Int} (hM : Nm M) : Nm (thr L M) := ⟨fun j hj => by
  rw [thr_len] at hj
  rw [thr_at hj]; exact gt_rng hM _⟩
theorem thr_assoc (L M K : List Int) : thr (thr L M) K = thr L (thr M K) := by
  unfold Proofs.Ytjjhlkjnjbagfaa.thr
  rw [List.map_map]
  apply List.map_congr_left
  intro x _
  show gt K (gt M x) = gt (M.map (gt K)) x
  by_cases hi : 0 ≤ x ∧ x < M.length
  · rw [gt_in hi, gt_in (show 0 ≤ x ∧ x < ((M.map (gt K)).length : Nat) by rw [List.length_map]; exact hi)]
    have hl : x.toNat < M.length := by omega
    simp [hl]
  · rw [gt_out hi, gt_neg, gt_out (by rw [List.length_map]; exact hi)]
/-- The first k are the same. -/
def sm (L M : List Int) : Nat → Bool
  | 0 => true
  | k + 1 => sm L M k && decide (gt L k = gt M k)
theorem sm_zero (L M : List Int) : sm L M 0 = true := rfl
theorem sm_succ (L M : List Int) (k : Nat) : sm L M (k + 1) = (sm L M k && decide (gt L k = gt M k)) := rfl
theorem sm_false {L M : List Int} {k : Nat} (h : sm L M k = false) : ∀ m, k ≤ m → sm L M m = false
  | 0, hm => by rw [show 0 = k by omega]; exact h
  | m + 1, hm => by
    by_cases e : k = m + 1
    · rw [← e]; exact h
    · rw [sm_succ, sm_false h m (by omega)]; rfl
theorem sm_self (L : List Int) : ∀ k, sm L L k = true
  | 0 => rfl
  | k + 1 => by rw [sm_succ, sm_self L k]; simp
/-! ### What is meant -/
def mS (L : List Int) : Nat → Nat → Bool
  | 0 => emp
  | k + 1 => if L.getD k 0 = -1 then mS L k else layS 0 (mS L k) (ofS (L.getD k 0) (L.getD k 0 + 1))
theorem mS_zero (L : List Int) : mS L 0 = emp := rfl
theorem mS_no {L : List Int} {k : Nat} (h : L.getD k 0 = -1) : mS L (k + 1) = mS L k := by simp only [mS]; rw [if_pos h]
theorem mS_yes {L : List Int} {k : Nat} (h : L.getD k 0 ≠ -1) : layS 0 (mS L k) (ofS (L.getD k 0) (L.getD k 0 + 1)) = mS L (k + 1) := by simp only [mS]; rw [if_neg h]
theorem mS_iff (L : List Int) (j : Nat) : ∀ k, mS L k j = true ↔ ∃ i, i < k ∧ L.getD i 0 = (j : Int)
  | 0 => by
    rw [mS_zero]
    constructor
    · intro h; cases h
    · rintro ⟨i, h, _⟩; omega
  | k + 1 => by
    by_cases h : L.getD k 0 = -1
    · rw [mS_no h, mS_iff L j k]
      constructor
      · rintro ⟨i, a, b⟩; exact ⟨i, by omega, b⟩
      · rintro ⟨i, a, b⟩
        have : i ≠ k := fun e => by subst e; omega
        exact ⟨i, by omega, b⟩
    · rw [← mS_yes h]
      show (mS L k j || (decide (L.getD k 0 ≤ (j : Int)) && decide ((j : Int) < L.getD k 0 + 1))) = true ↔ _
      rw [Bool.or_eq_true, mS_iff L j k, Bool.and_eq_true, decide_eq_true_eq, decide_eq_true_eq]
      constructor
      · rintro (⟨i, a, b⟩ | ⟨a, b⟩)
        · exact ⟨i, by omega, b⟩
        · exact ⟨k, by omega, by omega⟩
      · rintro ⟨i, a, b⟩
        by_cases e : i = k
        · subst e; exact .inr ⟨by omega, by omega⟩
        · exact .inl ⟨i, by omega, b⟩
/-- How many: a number more. -/
theorem al_more {s : Nat → Bool} {v : Nat} (hv : s v = false) : ∀ n, (al (layS 0 s (ofS (v : Int) ((v : Int) + 1))) n).length = (al s n).length + (if v < n then 1 else 0)
  | 0 => by simp [al]
  | n + 1 => by
    have ih := al_more hv n
    have hx : layS 0 s (ofS (v : Int) ((v : Int) + 1)) n = (s n || decide (n = v)) := by
      show (s n || (decide ((v : Int) ≤ (n : Int)) && decide ((n : Int) < (v : Int) + 1))) = _
      congr 1
      by_cases e : n = v
      · subst e
        rw [decide_eq_true (Int.le_refl _), decide_eq_true (show (n : Int) < (n : Int) + 1 by omega), decide_eq_true rfl]; rfl
      · rw [decide_eq_false e]
        by_cases a : (v : Int) ≤ (n : Int)
        · rw [decide_eq_false (show ¬ ((n : Int) < (v : Int) + 1) by omega)]; simp
        · rw [decide_eq_false a]; rfl
    by_cases e : n = v
    · subst e
      rw [al_yes (by rw [hx, decide_eq_true rfl]; simp), al_no hv, List.length_append, ih, if_neg (by omega), if_pos (by omega)]
      rfl
    · have hx' : layS 0 s (ofS (v : Int) ((v : Int) + 1)) n = s n := by rw [hx, decide_eq_false e]; simp
      cases hs : s n with
      | true =>
        rw [al_yes (by rw [hx']; exact hs), al_yes hs, List.length_append, List.length_append, ih]
        by_cases c : v < n
        · rw [if_pos c, if_pos (by omega)]; omega
        · rw [if_neg c, if_neg (by omega)]; omega
      | false =>
        rw [al_no (by rw [hx']; exact hs), al_no hs, ih]
        by_cases c : v < n
        · rw [if_pos c, if_pos (by omega)]
        · rw [if_neg c, if_neg (by omega)]
theorem mS_card {L : List Int} (hL : Nm L) (hd : Nd L) : ∀ k, k ≤ L.length → (al (mS L k) 1024).length = (nmN L k).length
  | 0, _ => by rw [mS_zero, al_emp, nmN_zero]
  | k + 1, hk => by
    have ih := mS_card hL hd k (by omega)
    by_cases h : L.getD k 0 = -1
    · rw [mS_no h, nmN_no h, ih]
    · have hv := hL.v k (by omega)
      have e : L.getD k 0 = ((L.getD k 0).toNat : Int) := by omega
      have hs : mS L k (L.getD k 0).toNat = false := by
        rw [Bool.eq_false_iff]
        intro hc
        obtain ⟨i, hi, he⟩ := (mS_iff L _ k).1 hc
        have := hd i k hi (by omega) (by omega)
        omega
      rw [nmN_yes h, List.length_append, ← mS_yes h]
      have := al_more hs 1024
      rw [← e] at this
      rw [this, ih, if_pos (by omega)]
      rfl
theorem mS_sub {L M : List Int} {a b : Nat} (h : ∀ i, i < a → 0 ≤ L.getD i 0 → ∃ j, j < b ∧ M.getD j 0 = L.getD i 0) : layS 1 (mS L a) (mS M b) = emp := by
  funext j
  show (mS L a j && !mS M b j) = false
  cases h1 : mS L a j with
  | false => rfl
  | true =>
    obtain ⟨i, hi, he⟩ := (mS_iff L j a).1 h1
    obtain ⟨q, hq, hqe⟩ := h i hi (by omega)
    rw [(mS_iff M j b).2 ⟨q, hq, by omega⟩]; rfl
theorem thr_sub (L M : List Int) : layS 1 (mS (thr L M) L.length) (mS M M.length) = emp := mS_sub fun i hi h => by
  rw [thr_at hi] at h ⊢
  have hx : 0 ≤ L.getD i 0 ∧ L.getD i 0 < M.length := Classical.byContradiction fun hn => by rw [gt_out hn] at h; omega
  rw [gt_in hx]
  exact ⟨(L.getD i 0).toNat, by omega, rfl⟩
/-! ### So many named as they are -/
def owL (k : Nat) : List Int := (List.range k).map fun (i : Nat) => (i : Int)
theorem owL_len (k : Nat) : (owL k).length = k := by simp [owL]
theorem owL_succ (k : Nat) : owL (k + 1) = owL k ++ [(k : Int)] := by simp [owL, List.range_succ]
theorem owL_at {k i : Nat} (h : i < k) : (owL k).getD i 0 = (i : Int) := by simp [owL, h]
theorem owL_nm {k : Nat} (h : k ≤ 1024) : Nm (owL k) := ⟨fun j hj => by
  rw [owL_len] at hj
  rw [owL_at hj]; omega⟩
theorem owL_names (k : Nat) : ∀ m, m ≤ k → (nmN (owL k) m).length = m
  | 0, _ => by rw [nmN_zero]; rfl
  | m + 1, h => by
    rw [nmN_yes (by rw [owL_at (show m < k by omega)]; omega), List.length_append, owL_names k m (by omega)]
    rfl
theorem owL_gt {k : Nat} (x : Int) : gt (owL k) x = if 0 ≤ x ∧ x < k then x else -1 := by
  by_cases h : 0 ≤ x ∧ x < k
  · rw [if_pos h, gt_in (by rw [owL_len]; exact h), owL_at (by omega)]; omega
  · rw [if_neg h, gt_out (by rw [owL_len]; exact h)]
theorem thr_own {L : List Int} (hL : Nm L) {k : Nat} (h : ∀ i, i < L.length → L.getD i 0 < k) : thr L (owL k) = L := by
  apply List.ext_getElem?
  intro i
  unfold thr
  rw [List.getElem?_map]
  by_cases hi : i < L.length
  · have e : L[i]? = some (L.getD i 0) := by simp [hi]
    rw [e, Option.map_some, owL_gt]
    have h1 := hL.v i hi
    have h2 := h i hi
    split
    · rfl
    · have : L.getD i 0 = -1 := by omega
      rw [this]
  · rw [List.getElem?_eq_none (by omega)]; rfl
end Go.Proofs.Ytjjhlkjnjbagfaa
