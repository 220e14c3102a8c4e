/-
Caps: the cells of a tree.
-/
import Derived.Test.YtfegdehgnhomnaaSpQ
import Derived.Test.YtfegdehgnhomnaaEngZ
namespace Go.Proofs.Ytfegdehgnhomnaa
set_option linter.unusedVariables false
set_option linter.unusedSimpArgs false
open Eng
theorem rws_emp : rws emp = [] := rws_empty
/-- A node, and where its rows lie. -/
structure Cq where
  g : Int
  p : Int
  A : Option Addr
  c : Nat
  s : Nat → Bool
def Cq.zero : Cq := ⟨0, 0, none, 0, emp⟩
def Cq.cs (x : Cq) : List Value := [.int .u64 x.g, .int .i64 x.p, .slice x.A (rws x.s).length x.c]
theorem cq_len (x : Cq) : x.cs.length = 3 := rfl
theorem cq_one (x : Cq) : x.cs.all (·.oneCell') = true := rfl
theorem cq_g (x : Cq) : x.cs[0]? = some (.int .u64 x.g) := rfl
theorem cq_p (x : Cq) : x.cs[1]? = some (.int .i64 x.p) := rfl
theorem cq_s (x : Cq) : x.cs[2]? = some (.slice x.A (rws x.s).length x.c) := rfl
theorem cq_zero : Cq.zero.cs = [.int .u64 0, .int .i64 0, .slice none 0 0] := by
  show [Value.int .u64 0, Value.int .i64 0, Value.slice none (rws emp).length 0] = _
  rw [show rws emp = [] from rws_empty]; rfl
abbrev Tq := Nat → Cq
def tqn (T : Tq) : List Value := ((List.range 64).map T).flatMap Cq.cs
def tq (T : Tq) (l : Int) : List Value := tqn T ++ [.int .u64 l]
theorem tqn_len (T : Tq) : (tqn T).length = 192 := by
  unfold tqn
  rw [flat_len Cq.cs 3 cq_len]
  simp
theorem tq_len (T : Tq) (l : Int) : (tq T l).length = 193 := by
  unfold tq
  rw [List.length_append, tqn_len]; rfl
theorem tqn_get (T : Tq) {i j : Nat} (h : i < 64) (hj : j < 3) : (tqn T)[i * 3 + j]? = (T i).cs[j]? := flat_get Cq.cs 3 cq_len _ i j (T i) (by simp [h]) hj
theorem tq_get (T : Tq) (l : Int) {i j : Nat} (h : i < 64) (hj : j < 3) : (tq T l)[i * 3 + j]? = (T i).cs[j]? := by
  unfold tq
  rw [List.getElem?_append_left (by rw [tqn_len]; omega), tqn_get T h hj]
theorem tq_last (T : Tq) (l : Int) : (tq T l)[192]? = some (.int .u64 l) := by
  unfold tq
  rw [List.getElem?_append_right (by rw [tqn_len]; exact Nat.le_refl _), tqn_len]; rfl
theorem tq_g (T : Tq) (l : Int) {i : Nat} (h : i < 64) : (tq T l)[i * 3 + 0]? = some (.int .u64 (T i).g) := (tq_get T l h (by omega)).trans (cq_g _)
theorem tq_p (T : Tq) (l : Int) {i : Nat} (h : i < 64) : (tq T l)[i * 3 + 1]? = some (.int .i64 (T i).p) := (tq_get T l h (by omega)).trans (cq_p _)
theorem tq_s (T : Tq) (l : Int) {i : Nat} (h : i < 64) : (tq T l)[i * 3 + 2]? = some (.slice (T i).A (rws (T i).s).length (T i).c) := (tq_get T l h (by omega)).trans (cq_s _)
theorem tq_el (T : Tq) (l : Int) {i : Nat} (h : i < 64) : ∀ (j : Nat) u, (T i).cs[j]? = some u → (tq T l)[i * 3 + j]? = some u := fun j u hu => by
  have hj : j < 3 := (List.getElem?_eq_some_iff.1 hu).1
  rw [tq_get T l h hj, hu]
theorem tq_all (T : Tq) (l : Int) : ∀ (j : Nat) u, (tqn T)[j]? = some u → (tq T l)[0 + j]? = some u := fun j u hu => by
  have hj : j < 192 := by rw [← tqn_len T]; exact (List.getElem?_eq_some_iff.1 hu).1
  rw [Nat.zero_add]
  unfold tq
  rw [List.getElem?_append_left (by rw [tqn_len]; exact hj), hu]
theorem tqn_el (T : Tq) {i : Nat} (h : i < 64) : ((tqn T).drop (((i : Int)).toNat * 3)).take 3 = (T i).cs := by
  rw [Int.toNat_natCast]
  apply List.ext_getElem?
  intro j
  rw [List.getElem?_take, List.getElem?_drop]
  by_cases hj : j < 3
  · rw [if_pos hj, tqn_get T h hj]
  · rw [if_neg hj, List.getElem?_eq_none (by rw [cq_len]; omega)]
theorem tq_one (T : Tq) (l : Int) : (tq T l).all (·.oneCell') = true := by
  rw [List.all_eq_true]
  intro v hv
  unfold tq tqn at hv
  rcases List.mem_append.1 hv with hv | hv
  · obtain ⟨x, _, hx⟩ := List.mem_flatMap.1 hv
    exact List.all_eq_true.1 (cq_one x) v hx
  · rw [List.mem_singleton] at hv
    subst hv; rfl
theorem tq_ext {L : List Value} {T : Tq} {l : Int} (hl : L.length = 193) (h : ∀ i j, i < 64 → j < 3 → L[i * 3 + j]? = (T i).cs[j]?) (h2 : L[192]? = some (.int .u64 l)) : L = tq T l := by
  refine List.ext_getElem? fun q => ?_
  by_cases hq : q < 192
  · have h3 := h (q / 3) (q % 3) (by omega) (by omega)
    have h4 := tq_get T l (i := q / 3) (j := q % 3) (by omega) (by omega)
    rw [show q / 3 * 3 + q % 3 = q by omega] at h3 h4
    rw [h3, h4]
  · by_cases hq2 : q = 192
    · subst hq2; rw [h2, tq_last]
    · rw [List.getElem?_eq_none (by omega), List.getElem?_eq_none (by rw [tq_len]; omega)]
theorem tq_put (T : Tq) (l : Int) {i : Nat} (h : i < 64) (x : Cq) : (tq T l).take (i * 3) ++ x.cs ++ (tq T l).drop (i * 3 + x.cs.length) = tq (upd T i x) l := by
  refine tq_ext (by simp [tq_len, cq_len]; omega) (fun i' j' hi' hj' => ?_) ?_
  · rw [cq_len]
    unfold upd
    by_cases h1 : i' < i
    · rw [if_neg (by omega), List.append_assoc, List.getElem?_append_left (by simp [tq_len]; omega), List.getElem?_take_of_lt (by omega), tq_get T l hi' hj']
    · by_cases h2 : i' = i
      · subst h2
        rw [if_pos rfl, List.getElem?_append_left (by simp [tq_len, cq_len]; omega), List.getElem?_append_right (by simp [tq_len]; omega), List.length_take, tq_len, Nat.min_eq_left (by omega), show i' * 3 + j' - i' * 3 = j' by omega]
      · rw [if_neg h2, List.getElem?_append_right (by simp [tq_len, cq_len]; omega), List.getElem?_drop, List.length_append, List.length_take, tq_len, cq_len, Nat.min_eq_left (by omega), show i * 3 + 3 + (i' * 3 + j' - (i * 3 + 3)) = i' * 3 + j' by omega, tq_get T l hi' hj']
  · rw [cq_len, List.getElem?_append_right (by simp [tq_len, cq_len]; omega), List.getElem?_drop, List.length_append, List.length_take, tq_len, cq_len, Nat.min_eq_left (by omega), show i * 3 + 3 + (192 - (i * 3 + 3)) = 192 by omega, tq_last]
theorem tq_putx (T : Tq) (l : Int) {i : Nat} (h : i < 64) (g p : Int) (A : Option Addr) (c : Nat) (s : Nat → Bool) : (tq T l).take (i * 3) ++ [.int .u64 g, .int .i64 p, .slice A (rws s).length c] ++ (tq T l).drop (i * 3 + 3) = tq (upd T i ⟨g, p, A, c, s⟩) l := tq_put T l h ⟨g, p, A, c, s⟩
theorem tq_zero_at (T : Tq) (l : Int) {i : Nat} (h : i < 64) : (tq T l).take (((i : Int)).toNat * 3) ++ [.int .u64 0, .int .i64 0, .slice none 0 0] ++ (tq T l).drop (((i : Int)).toNat * 3 + 3) = tq (upd T i Cq.zero) l := by
  have := tq_put T l h Cq.zero
  rw [cq_zero] at this
  exact this
theorem tq_set_last (T : Tq) (l l' : Int) : (tq T l).set 192 (.int .u64 l') = tq T l' := tq_ext (by rw [List.length_set, tq_len]) (fun i j hi hj => by rw [List.getElem?_set, if_neg (by omega), tq_get T l hi hj]) (by rw [List.getElem?_set, if_pos rfl, if_pos (by rw [tq_len]; omega)])
/-- Where each node's rows lie. -/
def Al (fr : List Chunk) (T : Tq) : Prop := ∀ i, i < 64 → Rds fr (T i).A (rc (rws (T i).s))
theorem Al.sub {fr fr' : List Chunk} {T : Tq} (h : Al fr T) (hs : fr.Sublist fr') : Al fr' T := fun i hi => (h i hi).sub hs
theorem Al.upd {fr : List Chunk} {T : Tq} (h : Al fr T) {k : Nat} {x : Cq} (hx : Rds fr x.A (rc (rws x.s))) : Al fr (upd T k x) := fun i hi => by
  unfold Eng.upd
  split
  · exact hx
  · exact h i hi
/-- Is a cap there? -/
def isN (T : Tq) (at_ gen : Int) : Prop := 0 ≤ at_ ∧ at_ < 64 ∧ gen ≠ 0 ∧ (T at_.toNat).g = gen
end Go.Proofs.Ytfegdehgnhomnaa
