/-
Span, plain: a set as rows that follow one another.
-/
import Derived.Test.YtfegdehgnhomnaaTab
namespace Go.Proofs.Ytfegdehgnhomnaa
set_option linter.unusedVariables false
set_option linter.unusedSimpArgs false
open Eng
abbrev Rw := Int × Int
def hasB (R : List Rw) (j : Int) : Bool := R.any fun r => decide (r.1 ≤ j) && decide (j < r.2)
/-- Rows that follow one another, none touching the next one, each behind lo. -/
def Sep : Int → List Rw → Prop
  | _, [] => True
  | lo, r :: R => lo < r.1 ∧ r.1 < r.2 ∧ Sep r.2 R
/-- Where the last row ends. -/
def lastTo : Int → List Rw → Int
  | lo, [] => lo
  | _, r :: R => lastTo r.2 R
theorem has_nil (j : Int) : hasB [] j = false := rfl
theorem has_cons (r : Rw) (R : List Rw) (j : Int) : hasB (r :: R) j = ((decide (r.1 ≤ j) && decide (j < r.2)) || hasB R j) := rfl
theorem has_app (R Q : List Rw) (j : Int) : hasB (R ++ Q) j = (hasB R j || hasB Q j) := by simp [hasB]
theorem sep_low {lo : Int} : ∀ {R : List Rw}, Sep lo R → ∀ j, j ≤ lo → hasB R j = false := by
  intro R
  induction R generalizing lo with
  | nil => intro _ j _; rfl
  | cons r R ih =>
    intro h j hj
    obtain ⟨h1, h2, h3⟩ := h
    rw [has_cons, ih h3 j (by omega), decide_eq_false (by omega)]
    rfl
theorem lastTo_ge {lo : Int} : ∀ {R : List Rw}, Sep lo R → lo ≤ lastTo lo R := by
  intro R
  induction R generalizing lo with
  | nil => intro _; exact Int.le_refl _
  | cons r R ih =>
    intro h
    obtain ⟨h1, h2, h3⟩ := h
    have := ih h3
    show lo ≤ lastTo r.2 R
    omega
theorem sep_high {lo : Int} : ∀ {R : List Rw}, Sep lo R → ∀ j, lastTo lo R ≤ j → hasB R j = false := by
  intro R
  induction R generalizing lo with
  | nil => intro _ j _; rfl
  | cons r R ih =>
    intro h j hj
    obtain ⟨h1, h2, h3⟩ := h
    have hg := lastTo_ge h3
    have hj' : lastTo r.2 R ≤ j := hj
    rw [has_cons, ih h3 j hj', decide_eq_false (show ¬ j < r.2 by omega)]
    simp
theorem sep_len {lo : Int} : ∀ {R : List Rw}, Sep lo R → 2 * (R.length : Int) ≤ lastTo lo R - lo := by
  intro R
  induction R generalizing lo with
  | nil => intro _; simp [lastTo]
  | cons r R ih =>
    intro h
    obtain ⟨h1, h2, h3⟩ := h
    have := ih h3
    show 2 * ((R.length + 1 : Nat) : Int) ≤ lastTo r.2 R - lo
    omega
theorem sep_mono {lo lo' : Int} (hl : lo' ≤ lo) {R : List Rw} (h : Sep lo R) : Sep lo' R := by
  cases R with
  | nil => trivial
  | cons r R => exact ⟨by have := h.1; omega, h.2⟩
theorem sep_uniq {lo : Int} : ∀ {R Q : List Rw}, Sep lo R → Sep lo Q → (∀ j, hasB R j = hasB Q j) → R = Q := by
  intro R
  induction R generalizing lo with
  | nil =>
    intro Q _ hQ h
    cases Q with
    | nil => rfl
    | cons q Q =>
      have := h q.1
      have h2 := hQ.2.1
      rw [has_nil, has_cons, decide_eq_true (Int.le_refl _), decide_eq_true h2] at this
      simp at this
  | cons r R ih =>
    intro Q hR hQ h
    cases Q with
    | nil =>
      have := h r.1
      have h2 := hR.2.1
      rw [has_nil, has_cons, decide_eq_true (Int.le_refl _), decide_eq_true h2] at this
      simp at this
    | cons q Q =>
      obtain ⟨h1, h2, h3⟩ := hR
      obtain ⟨g1, g2, g3⟩ := hQ
      have e1 : r.1 = q.1 := by
        rcases Int.lt_trichotomy r.1 q.1 with hlt | he | hlt
        · have := h r.1
          rw [has_cons, has_cons, decide_eq_true (Int.le_refl _), decide_eq_true h2, decide_eq_false (show ¬ q.1 ≤ r.1 by omega), sep_low g3 r.1 (by omega)] at this
          simp at this
        · exact he
        · have := h q.1
          rw [has_cons, has_cons, decide_eq_true (Int.le_refl _), decide_eq_true g2, decide_eq_false (show ¬ r.1 ≤ q.1 by omega), sep_low h3 q.1 (by omega)] at this
          simp at this
      have e2 : r.2 = q.2 := by
        rcases Int.lt_trichotomy r.2 q.2 with hlt | he | hlt
        · have := h r.2
          rw [has_cons, has_cons, decide_eq_false (show ¬ r.2 < r.2 by omega), sep_low h3 r.2 (Int.le_refl _), decide_eq_true (show q.1 ≤ r.2 by omega), decide_eq_true hlt] at this
          simp at this
        · exact he
        · have := h q.2
          rw [has_cons, has_cons, decide_eq_false (show ¬ q.2 < q.2 by omega), sep_low g3 q.2 (Int.le_refl _), decide_eq_true (show r.1 ≤ q.2 by omega), decide_eq_true hlt] at this
          simp at this
      have e : r = q := Prod.ext e1 e2
      subst e
      congr 1
      refine ih h3 g3 fun j => ?_
      have hj := h j
      rw [has_cons, has_cons] at hj
      by_cases hle : j ≤ r.2
      · rw [sep_low h3 j hle, sep_low g3 j hle]
      · rw [decide_eq_false (show ¬ j < r.2 by omega)] at hj
        simpa using hj
/-! ### One row more at the end -/
theorem sep_snoc {lo : Int} : ∀ {R : List Rw} {f t : Int}, Sep lo R → lastTo lo R < f → f < t → Sep lo (R ++ [(f, t)]) := by
  intro R
  induction R generalizing lo with
  | nil => intro f t _ h1 h2; exact ⟨h1, h2, trivial⟩
  | cons r R ih =>
    intro f t h h1 h2
    exact ⟨h.1, h.2.1, ih h.2.2 h1 h2⟩
theorem lastTo_snoc (lo : Int) : ∀ (R : List Rw) (r : Rw), lastTo lo (R ++ [r]) = r.2 := by
  intro R
  induction R generalizing lo with
  | nil => intro r; rfl
  | cons q R ih => intro r; exact ih q.2 r
theorem sep_init {lo : Int} : ∀ {R : List Rw} {f t : Int}, Sep lo (R ++ [(f, t)]) → Sep lo R ∧ lastTo lo R < f ∧ f < t := by
  intro R
  induction R generalizing lo with
  | nil => intro f t h; exact ⟨trivial, h.1, h.2.1⟩
  | cons r R ih =>
    intro f t h
    obtain ⟨a, b, c⟩ := ih h.2.2
    exact ⟨⟨h.1, h.2.1, a⟩, b, c⟩
/-- A row is laid behind the others; if it touches the last one, they are one. -/
def push (O : List Rw) (f t : Int) : List Rw := if lastTo (-1) O = f ∧ O ≠ [] then O.set (O.length - 1) ((O.getD (O.length - 1) (0, 0)).1, t) else O ++ [(f, t)]
theorem snoc_of {O : List Rw} (h : O ≠ []) : ∃ Q f t, O = Q ++ [(f, t)] ∧ O.length = Q.length + 1 ∧ O.getD (O.length - 1) (0, 0) = (f, t) := by
  obtain ⟨Q, r, rfl⟩ : ∃ Q r, O = Q ++ [r] := ⟨O.dropLast, O.getLast h, (List.dropLast_concat_getLast h).symm⟩
  refine ⟨Q, r.1, r.2, rfl, by simp, by simp⟩
theorem push_spec {O : List Rw} {f t : Int} (h : Sep (-1) O) (hl : lastTo (-1) O ≤ f) (hf : 0 ≤ f) (ht : f < t) : Sep (-1) (push O f t) ∧ lastTo (-1) (push O f t) = t ∧ ∀ j, hasB (push O f t) j = (hasB O j || (decide (f ≤ j) && decide (j < t))) := by
  unfold push
  split
  · rename_i hc
    obtain ⟨Q, f0, t0, hO, hlen, hget⟩ := snoc_of hc.2
    rw [hget]
    have e : O.set (O.length - 1) (f0, t) = Q ++ [(f0, t)] := by
      rw [hO, show (Q ++ [(f0, t0)]).length - 1 = Q.length by simp]
      simp
    have ht0 : t0 = f := by
      have := hc.1
      rw [hO, lastTo_snoc] at this
      exact this
    show Sep (-1) (O.set (O.length - 1) (f0, t)) ∧ _
    rw [e]
    have hs := h
    rw [hO] at hs
    obtain ⟨h1, h2, h3⟩ := sep_init hs
    refine ⟨sep_snoc h1 h2 (by omega), lastTo_snoc _ _ _, fun j => ?_⟩
    rw [has_app, hO, has_app, has_cons, has_cons, has_nil]
    subst ht0
    simp only [Bool.or_false, Bool.or_assoc]
    congr 1
    by_cases a : f0 ≤ j <;> by_cases b : j < t0 <;> by_cases c : t0 ≤ j <;> by_cases d : j < t <;> simp [a, b, c, d] <;> omega
  · rename_i hc
    have hlt : lastTo (-1) O < f := by
      by_cases he : O = []
      · subst he; show (-1 : Int) < f; omega
      · have : lastTo (-1) O ≠ f := fun e => hc ⟨e, he⟩
        omega
    refine ⟨sep_snoc h hlt ht, lastTo_snoc _ _ _, fun j => ?_⟩
    rw [has_app, has_cons, has_nil, Bool.or_false]
theorem push_nil (f t : Int) : push [] f t = [(f, t)] := by simp [push]
/-- The rows of the first n numbers of a set. -/
def rr (s : Nat → Bool) : Nat → List Rw
  | 0 => []
  | n + 1 => if s n = true then push (rr s n) n (n + 1) else rr s n
theorem rr_zero (s : Nat → Bool) : rr s 0 = [] := rfl
theorem rr_yes {s : Nat → Bool} {n : Nat} (h : s n = true) : rr s (n + 1) = push (rr s n) n (n + 1) := by simp only [rr]; rw [if_pos h]
theorem rr_no {s : Nat → Bool} {n : Nat} (h : s n = false) : rr s (n + 1) = rr s n := by simp only [rr]; rw [if_neg (by rw [h]; simp)]
theorem rr_spec (s : Nat → Bool) : ∀ n : Nat, Sep (-1) (rr s n) ∧ lastTo (-1) (rr s n) ≤ n ∧ ∀ j : Int, hasB (rr s n) j = (decide (0 ≤ j) && decide (j < n) && s j.toNat)
  | 0 => ⟨trivial, by show (-1 : Int) ≤ _; omega, fun j => by
    rw [rr_zero, has_nil]
    by_cases a : 0 ≤ j
    · rw [decide_eq_false (show ¬ j < ((0 : Nat) : Int) by omega)]; simp
    · simp [a]⟩
  | n + 1 => by
    obtain ⟨h1, h2, h3⟩ := rr_spec s n
    cases hs : s n with
    | true =>
      rw [rr_yes hs]
      obtain ⟨g1, g2, g3⟩ := push_spec (t := n + 1) h1 h2 (by omega) (by omega)
      refine ⟨g1, by rw [g2]; omega, fun j => ?_⟩
      rw [g3, h3]
      by_cases e : j = n
      · subst e
        simp [hs]
      · by_cases a : 0 ≤ j <;> by_cases b : j < n <;> by_cases c : j < ((n + 1 : Nat) : Int) <;> by_cases d : (n : Int) ≤ j <;> by_cases d2 : j < (n : Int) + 1 <;> simp [a, b, c, d, d2] <;> omega
    | false =>
      rw [rr_no hs]
      refine ⟨h1, by omega, fun j => ?_⟩
      rw [h3]
      by_cases e : j = n
      · subst e; simp [hs]
      · by_cases a : 0 ≤ j <;> by_cases b : j < n <;> by_cases c : j < ((n + 1 : Nat) : Int) <;> simp [a, b, c] <;> omega
/-- The rows of a set. -/
def rws (s : Nat → Bool) : List Rw := rr s 1024
/-- Whether a number is of a set. -/
def inS (s : Nat → Bool) (j : Int) : Bool := decide (0 ≤ j) && decide (j < 1024) && s j.toNat
theorem rws_sep (s : Nat → Bool) : Sep (-1) (rws s) := (rr_spec s 1024).1
theorem rws_has (s : Nat → Bool) (j : Int) : hasB (rws s) j = inS s j := (rr_spec s 1024).2.2 j
theorem rws_last (s : Nat → Bool) : lastTo (-1) (rws s) ≤ 1024 := (rr_spec s 1024).2.1
theorem rws_len (s : Nat → Bool) : (rws s).length ≤ 512 := by
  have h1 := sep_len (rws_sep s)
  have h2 := rws_last s
  omega
theorem rws_eq {s : Nat → Bool} {R : List Rw} (h : Sep (-1) R) (hj : ∀ j, hasB R j = inS s j) : R = rws s := sep_uniq h (rws_sep s) fun j => by rw [hj, rws_has]
/-! ### Between cuts -/
theorem has_const {R : List Rw} {c j : Int} (hcj : c ≤ j) (h : ∀ r ∈ R, (r.1 ≤ c ∨ j < r.1) ∧ (r.2 ≤ c ∨ j < r.2)) : hasB R j = hasB R c := by
  induction R with
  | nil => rfl
  | cons r R ih =>
    rw [has_cons, has_cons, ih (fun q hq => h q (List.mem_cons_of_mem _ hq))]
    obtain ⟨h1, h2⟩ := h r List.mem_cons_self
    congr 1
    by_cases a : r.1 ≤ j <;> by_cases b : r.1 ≤ c <;> by_cases d : j < r.2 <;> by_cases e : c < r.2 <;> simp [a, b, d, e] <;> omega
theorem has_below {R : List Rw} {j : Int} (h : ∀ r ∈ R, j < r.1) : hasB R j = false := by
  induction R with
  | nil => rfl
  | cons r R ih =>
    rw [has_cons, ih (fun q hq => h q (List.mem_cons_of_mem _ hq)), decide_eq_false (by have := h r List.mem_cons_self; omega)]
    rfl
theorem has_above {R : List Rw} {j : Int} (h : ∀ r ∈ R, r.2 ≤ j) : hasB R j = false := by
  induction R with
  | nil => rfl
  | cons r R ih =>
    rw [has_cons, ih (fun q hq => h q (List.mem_cons_of_mem _ hq)), decide_eq_false (show ¬ j < r.2 by have := h r List.mem_cons_self; omega)]
    simp
/-- All beginnings and ends. -/
def ends (R : List Rw) : List Int := R.flatMap fun r => [r.1, r.2]
theorem ends_mem {R : List Rw} {r : Rw} (h : r ∈ R) : r.1 ∈ ends R ∧ r.2 ∈ ends R := by
  unfold ends
  simp only [List.mem_flatMap]
  exact ⟨⟨r, h, by simp⟩, ⟨r, h, by simp⟩⟩
theorem ends_len (R : List Rw) : (ends R).length = 2 * R.length := by
  induction R with
  | nil => rfl
  | cons r R ih =>
    unfold ends at ih ⊢
    rw [List.flatMap_cons, List.length_append, ih]
    simp; omega
/-- What is laid together of the first n cuts. -/
def mg (a b : List Rw) (keep : Bool → Bool → Bool) (C : List Int) : Nat → List Rw
  | 0 => []
  | n + 1 => if C.getD n 0 = C.getD (n + 1) 0 ∨ keep (hasB a (C.getD n 0)) (hasB b (C.getD n 0)) = false then mg a b keep C n else push (mg a b keep C n) (C.getD n 0) (C.getD (n + 1) 0)
theorem mg_zero (a b : List Rw) (keep : Bool → Bool → Bool) (C : List Int) : mg a b keep C 0 = [] := rfl
theorem mg_no {a b : List Rw} {keep : Bool → Bool → Bool} {C : List Int} {n : Nat} (h : C.getD n 0 = C.getD (n + 1) 0 ∨ keep (hasB a (C.getD n 0)) (hasB b (C.getD n 0)) = false) : mg a b keep C (n + 1) = mg a b keep C n := by simp only [mg]; rw [if_pos h]
theorem mg_yes {a b : List Rw} {keep : Bool → Bool → Bool} {C : List Int} {n : Nat} (h : ¬ (C.getD n 0 = C.getD (n + 1) 0 ∨ keep (hasB a (C.getD n 0)) (hasB b (C.getD n 0)) = false)) : mg a b keep C (n + 1) = push (mg a b keep C n) (C.getD n 0) (C.getD (n + 1) 0) := by simp only [mg]; rw [if_neg h]
/-- Cuts: all beginnings and ends, in order. -/
structure Cuts (a b : List Rw) (C : List Int) : Prop where
  s : ∀ i j, i ≤ j → j < C.length → C.getD i 0 ≤ C.getD j 0
  m : ∀ r, r ∈ a ∨ r ∈ b → (∃ i, i < C.length ∧ C.getD i 0 = r.1) ∧ (∃ i, i < C.length ∧ C.getD i 0 = r.2)
  z : ∀ i, i < C.length → 0 ≤ C.getD i 0
theorem mg_spec {a b : List Rw} {keep : Bool → Bool → Bool} {C : List Int} (hC : Cuts a b C) (hk : keep false false = false) :
    ∀ n, n < C.length → Sep (-1) (mg a b keep C n) ∧ lastTo (-1) (mg a b keep C n) ≤ C.getD n 0 ∧ ∀ j, hasB (mg a b keep C n) j = (decide (j < C.getD n 0) && keep (hasB a j) (hasB b j))
  | 0, h => ⟨trivial, by show (-1 : Int) ≤ _; have := hC.z 0 h; omega, fun j => by
    show hasB [] j = _
    rw [has_nil]
    by_cases hj : j < C.getD 0 0
    · have h1 : hasB a j = false := has_below fun r hr => by
        obtain ⟨⟨i, hi, e⟩, _⟩ := hC.m r (.inl hr)
        have := hC.s 0 i (by omega) hi
        omega
      have h2 : hasB b j = false := has_below fun r hr => by
        obtain ⟨⟨i, hi, e⟩, _⟩ := hC.m r (.inr hr)
        have := hC.s 0 i (by omega) hi
        omega
      rw [h1, h2, hk]; simp
    · rw [decide_eq_false hj]; rfl⟩
  | n + 1, h => by
    obtain ⟨h1, h2, h3⟩ := mg_spec hC hk n (by omega)
    have hle := hC.s n (n + 1) (by omega) h
    have hz := hC.z n (by omega)
    have key : ∀ j, C.getD n 0 ≤ j → j < C.getD (n + 1) 0 → keep (hasB a j) (hasB b j) = keep (hasB a (C.getD n 0)) (hasB b (C.getD n 0)) := fun j hj1 hj2 => by
      have hpt : ∀ i, i < C.length → C.getD i 0 ≤ C.getD n 0 ∨ j < C.getD i 0 := fun i hi => by
        by_cases hin : i ≤ n
        · exact .inl (hC.s i n hin (by omega))
        · have := hC.s (n + 1) i (by omega) hi
          exact .inr (by omega)
      rw [has_const (R := a) hj1 fun r hr => by
          obtain ⟨⟨i, hi, e⟩, ⟨i2, hi2, e2⟩⟩ := hC.m r (.inl hr)
          rw [← e, ← e2]; exact ⟨hpt i hi, hpt i2 hi2⟩,
        has_const (R := b) hj1 fun r hr => by
          obtain ⟨⟨i, hi, e⟩, ⟨i2, hi2, e2⟩⟩ := hC.m r (.inr hr)
          rw [← e, ← e2]; exact ⟨hpt i hi, hpt i2 hi2⟩]
    by_cases hc : C.getD n 0 = C.getD (n + 1) 0 ∨ keep (hasB a (C.getD n 0)) (hasB b (C.getD n 0)) = false
    · rw [mg_no hc]
      refine ⟨h1, by omega, fun j => ?_⟩
      rw [h3]
      by_cases hj1 : j < C.getD n 0
      · rw [decide_eq_true hj1, decide_eq_true (by omega)]
      · by_cases hj2 : j < C.getD (n + 1) 0
        · rcases hc with hc | hc
          · omega
          · rw [key j (by omega) hj2, hc]; simp
        · rw [decide_eq_false hj1, decide_eq_false hj2]
    · rw [mg_yes hc]
      have hne : C.getD n 0 ≠ C.getD (n + 1) 0 := fun e => hc (.inl e)
      have hkt : keep (hasB a (C.getD n 0)) (hasB b (C.getD n 0)) = true := by
        cases hx : keep (hasB a (C.getD n 0)) (hasB b (C.getD n 0)) with
        | true => rfl
        | false => exact absurd (.inr hx) hc
      obtain ⟨g1, g2, g3⟩ := push_spec (t := C.getD (n + 1) 0) h1 h2 hz (by omega)
      refine ⟨g1, by rw [g2]; exact Int.le_refl _, fun j => ?_⟩
      rw [g3, h3]
      by_cases hj1 : j < C.getD n 0
      · rw [decide_eq_true hj1, decide_eq_true (show j < C.getD (n + 1) 0 by omega), decide_eq_false (show ¬ C.getD n 0 ≤ j by omega)]; simp
      · by_cases hj2 : j < C.getD (n + 1) 0
        · rw [key j (by omega) hj2, hkt, decide_eq_false hj1, decide_eq_true hj2, decide_eq_true (show C.getD n 0 ≤ j by omega)]; rfl
        · rw [decide_eq_false hj1, decide_eq_false hj2]; simp
theorem mg_end {a b R : List Rw} {keep : Bool → Bool → Bool} {C : List Int} (hC : Cuts a b C) (hk : keep false false = false) (hR : Sep (-1) R) (hj : ∀ j, hasB R j = keep (hasB a j) (hasB b j)) : mg a b keep C (C.length - 1) = R := by
  by_cases h0 : C.length = 0
  · rw [h0]
    show [] = R
    refine sep_uniq (lo := -1) trivial hR fun j => ?_
    have ha : a = [] := List.eq_nil_iff_forall_not_mem.2 fun r hr => by
      obtain ⟨⟨i, hi, _⟩, _⟩ := hC.m r (.inl hr); omega
    have hb : b = [] := List.eq_nil_iff_forall_not_mem.2 fun r hr => by
      obtain ⟨⟨i, hi, _⟩, _⟩ := hC.m r (.inr hr); omega
    rw [hj, ha, hb, has_nil, hk]
  · obtain ⟨h1, h2, h3⟩ := mg_spec hC hk (C.length - 1) (by omega)
    refine sep_uniq h1 hR fun j => ?_
    rw [h3, hj]
    by_cases hl : j < C.getD (C.length - 1) 0
    · rw [decide_eq_true hl]; rfl
    · have ha : hasB a j = false := has_above fun r hr => by
        obtain ⟨_, ⟨i, hi, e⟩⟩ := hC.m r (.inl hr)
        have := hC.s i (C.length - 1) (by omega) (by omega)
        omega
      have hb : hasB b j = false := has_above fun r hr => by
        obtain ⟨_, ⟨i, hi, e⟩⟩ := hC.m r (.inr hr)
        have := hC.s i (C.length - 1) (by omega) (by omega)
        omega
      rw [ha, hb, hk]; simp
end Go.Proofs.Ytfegdehgnhomnaa
