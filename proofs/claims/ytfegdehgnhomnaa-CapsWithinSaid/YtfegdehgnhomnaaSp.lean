/-
Span: one row, a number looked for, how many.
-/
import Derived.Test.YtfegdehgnhomnaaSpL
import Derived.Test.YtfegdehgnhomnaaSpSort
import Derived.Test.YtfegdehgnhomnaaEngW
namespace Go.Proofs.Ytfegdehgnhomnaa
set_option linter.unusedVariables false
set_option linter.unusedSimpArgs false
open Eng
def rcs (r : Rw) : List Value := [.int .i64 r.1, .int .i64 r.2]
def rc (R : List Rw) : List Value := R.flatMap rcs
theorem rcs_len (r : Rw) : (rcs r).length = 2 := rfl
theorem rcs_one (r : Rw) : (rcs r).all (·.oneCell') = true := rfl
theorem rcs_f (r : Rw) : (rcs r)[0]? = some (.int .i64 r.1) := rfl
theorem rcs_t (r : Rw) : (rcs r)[1]? = some (.int .i64 r.2) := rfl
theorem rc_nil : rc [] = [] := rfl
theorem rc_mk (f t : Int) : rc [(f, t)] = [.int .i64 f, .int .i64 t] := rfl
theorem rcs_mk (r : Rw) : rcs r = [.int .i64 r.1, .int .i64 r.2] := rfl
theorem rc_add (R : List Rw) (r : Rw) : rc (R ++ [r]) = rc R ++ rcs r := by simp [rc]
theorem rc_app (R Q : List Rw) : rc (R ++ Q) = rc R ++ rc Q := by simp [rc]
theorem rc_len (R : List Rw) : (rc R).length = R.length * 2 := flat_len rcs 2 rcs_len R
theorem rc_one (R : List Rw) : (rc R).all (·.oneCell') = true := by
  rw [List.all_eq_true]
  intro v hv
  unfold rc at hv
  obtain ⟨r, _, h⟩ := List.mem_flatMap.1 hv
  exact (List.all_eq_true.1 (rcs_one r)) v h
/-- A row of a list. -/
def at' (R : List Rw) (k : Nat) : Rw := R.getD k (0, 0)
theorem at_get {R : List Rw} {k : Nat} (h : k < R.length) : R[k]? = some (at' R k) := by simp [at', h]
theorem at_mem {R : List Rw} {k : Nat} (h : k < R.length) : at' R k ∈ R := by
  have : at' R k = R[k] := by simp [at', h]
  rw [this]; exact List.getElem_mem h
theorem rc_el (R : List Rw) {k : Nat} (h : k < R.length) : ∀ (j : Nat) u, (rcs (at' R k))[j]? = some u → (rc R)[k * 2 + j]? = some u := fun j u hu => by
  have hj : j < 2 := (List.getElem?_eq_some_iff.1 hu).1
  unfold rc
  rw [flat_get rcs 2 rcs_len R k j _ (at_get h) hj]; exact hu
theorem rc_f (R : List Rw) {k : Nat} (h : k < R.length) : (rc R)[((k : Int)).toNat * 2 + 0]? = some (.int .i64 (at' R k).1) := by rw [Int.toNat_natCast]; exact rc_el R h 0 _ rfl
theorem rc_t (R : List Rw) {k : Nat} (h : k < R.length) : (rc R)[((k : Int)).toNat * 2 + 1]? = some (.int .i64 (at' R k).2) := by rw [Int.toNat_natCast]; exact rc_el R h 1 _ rfl
theorem rc_ne {fr : List Chunk} {A : Option Addr} {R : List Rw} {w : World} (hrd : Rds fr A (rc R)) (hw : Pre w fr) : 0 < R.length → A ≠ none := fun h => hrd.ne hw (by rw [rc_len]; omega)
/-! ### Looking for a number -/
theorem sep_at {lo : Int} : ∀ {R : List Rw}, Sep lo R → ∀ k, k < R.length → lo < (at' R k).1 ∧ (at' R k).1 < (at' R k).2 ∧ ∀ k', k < k' → k' < R.length → (at' R k).2 < (at' R k').1 := by
  intro R
  induction R generalizing lo with
  | nil => intro _ k h; simp at h
  | cons r R ih =>
    intro h k hk
    obtain ⟨h1, h2, h3⟩ := h
    cases k with
    | zero =>
      refine ⟨h1, h2, fun k' h4 h5 => ?_⟩
      obtain ⟨m, rfl⟩ : ∃ m, k' = m + 1 := ⟨k' - 1, by omega⟩
      exact (ih h3 m (by simpa using h5)).1
    | succ k =>
      obtain ⟨g1, g2, g3⟩ := ih h3 k (by simpa using hk)
      have e : at' (r :: R) (k + 1) = at' R k := rfl
      rw [e]
      refine ⟨by omega, g2, fun k' h4 h5 => ?_⟩
      obtain ⟨m, rfl⟩ : ∃ m, k' = m + 1 := ⟨k' - 1, by omega⟩
      exact g3 m (by omega) (by simpa using h5)
theorem has_iff {R : List Rw} {j : Int} : hasB R j = true ↔ ∃ k, k < R.length ∧ (at' R k).1 ≤ j ∧ j < (at' R k).2 := by
  constructor
  · intro h
    obtain ⟨r, hr, h2⟩ := List.any_eq_true.1 h
    obtain ⟨k, hk, e⟩ := List.getElem_of_mem hr
    refine ⟨k, hk, ?_⟩
    have : at' R k = r := by rw [← e]; simp [at', hk]
    rw [this]
    simpa using h2
  · rintro ⟨k, hk, h1, h2⟩
    exact List.any_eq_true.2 ⟨_, at_mem hk, by simp [h1, h2]⟩
theorem bs_end {R : List Rw} {lo n : Int} {i : Nat} (h : Sep lo R) (hi : i ≤ R.length) (h1 : ∀ k, k < i → (at' R k).2 ≤ n) (h2 : ∀ k, i ≤ k → k < R.length → n < (at' R k).2) : hasB R n = (decide (i < R.length) && decide ((at' R i).1 ≤ n)) := by
  by_cases hl : i < R.length
  · by_cases hf : (at' R i).1 ≤ n
    · rw [decide_eq_true hl, decide_eq_true hf, has_iff.2 ⟨i, hl, hf, h2 i (Nat.le_refl _) hl⟩]; rfl
    · rw [decide_eq_false hf, Bool.and_false]
      rw [Bool.eq_false_iff]
      intro hc
      obtain ⟨k, hk, a, b⟩ := has_iff.1 hc
      rcases Nat.lt_trichotomy k i with hlt | he | hgt
      · have := h1 k hlt; omega
      · subst he; exact hf a
      · have h3 := (sep_at h i hl).2.2 k hgt hk
        have h4 := (sep_at h i hl).2.1
        omega
  · rw [decide_eq_false hl, Bool.false_and, Bool.eq_false_iff]
    intro hc
    obtain ⟨k, hk, a, b⟩ := has_iff.1 hc
    have := h1 k (by omega); omega
theorem mid_u {x : Int} (h0 : 0 ≤ x) (h1 : x ≤ 2000000) : IntKind.u64.wrap x = x := by
  simp [IntKind.wrap, IntKind.bits, IntKind.signed]
  omega
theorem mid_i {x : Int} (h0 : 0 ≤ x) (h1 : x ≤ 2000000) : IntKind.i64.wrap x = x := wrap64_id (by omega) (by omega)
theorem mid_s (i j : Nat) : shrv .u64 ((i : Int) + (j : Int)) 1 = (((i + j) / 2 : Nat) : Int) := by
  have e : shrv .u64 ((i : Int) + (j : Int)) 1 = ((i : Int) + (j : Int)).fdiv 2 := by
    unfold shrv
    simp [IntKind.bits]
  rw [e, Int.fdiv_eq_ediv_of_nonneg _ (by omega)]
  omega
end Go.Proofs.Ytfegdehgnhomnaa
