/-
Span: what is laid together, in sets' words.
-/
import Derived.Test.YtfegdehgnhomnaaSp8
namespace Go.Proofs.Ytfegdehgnhomnaa
set_option linter.unusedVariables false
set_option linter.unusedSimpArgs false
open Eng
/-- The empty set. -/
def emp : Nat → Bool := fun _ => false
theorem al_emp : ∀ n, al emp n = []
  | 0 => rfl
  | n + 1 => by rw [al_no rfl, al_emp n]
theorem lay_back1 (s t : Nat → Bool) : layS 0 (layS 1 s (layS 2 s t)) (layS 2 s t) = s := by
  funext j; unfold layS layB; cases s j <;> cases t j <;> rfl
theorem lay_back2 (s t : Nat → Bool) : layS 0 (layS 1 s t) (layS 2 s t) = s := by
  funext j; unfold layS layB; cases s j <;> cases t j <;> rfl
theorem lay_self (s : Nat → Bool) : layS 1 s s = emp := by
  funext j; unfold layS layB emp; cases s j <;> rfl
theorem lay_in1 (s t : Nat → Bool) : layS 1 (layS 2 s t) s = emp := by
  funext j; unfold layS layB emp; cases s j <;> cases t j <;> rfl
theorem lay_in2 (s t : Nat → Bool) : layS 1 (layS 2 s t) t = emp := by
  funext j; unfold layS layB emp; cases s j <;> cases t j <;> rfl
theorem with_s (s t r : Nat → Bool) (hr : layS 0 s t = r) (A B : Option Addr) (ca cb : Nat) (fr : List Chunk) (hrdA : Rds fr A (rc (rws s))) (hrdB : Rds fr B (rc (rws t))) :
    Does Try.prog 33 [.agg #[.slice A (rws s).length ca], .agg #[.slice B (rws t).length cb]] fr (fun _ : Option Addr × Nat => True) (fun x => .agg #[.slice x.1 (rws r).length x.2]) (fun x => own x.1 x.2 75 2 (rws r).length (rc (rws r)) :: fr) := by
  subst hr; exact with_c _ _ _ (rws_ok _) (rws_ok _) (rws_ok _) (hm_with s t) A B ca cb fr hrdA hrdB
theorem without_s (s t r : Nat → Bool) (hr : layS 1 s t = r) (A B : Option Addr) (ca cb : Nat) (fr : List Chunk) (hrdA : Rds fr A (rc (rws s))) (hrdB : Rds fr B (rc (rws t))) :
    Does Try.prog 32 [.agg #[.slice A (rws s).length ca], .agg #[.slice B (rws t).length cb]] fr (fun _ : Option Addr × Nat => True) (fun x => .agg #[.slice x.1 (rws r).length x.2]) (fun x => own x.1 x.2 75 2 (rws r).length (rc (rws r)) :: fr) := by
  subst hr; exact without_c _ _ _ (rws_ok _) (rws_ok _) (rws_ok _) (hm_without s t) A B ca cb fr hrdA hrdB
theorem both_s (s t r : Nat → Bool) (hr : layS 2 s t = r) (A B : Option Addr) (ca cb : Nat) (fr : List Chunk) (hrdA : Rds fr A (rc (rws s))) (hrdB : Rds fr B (rc (rws t))) :
    Does Try.prog 41 [.agg #[.slice A (rws s).length ca], .agg #[.slice B (rws t).length cb]] fr (fun _ : Option Addr × Nat => True) (fun x => .agg #[.slice x.1 (rws r).length x.2]) (fun x => own x.1 x.2 75 2 (rws r).length (rc (rws r)) :: fr) := by
  subst hr; exact both_c _ _ _ (rws_ok _) (rws_ok _) (rws_ok _) (hm_both 2 (by decide) (by decide) s t) A B ca cb fr hrdA hrdB
theorem within_s (s t r : Nat → Bool) (hr : layS 1 s t = r) (A B : Option Addr) (ca cb : Nat) (fr : List Chunk) (hrdA : Rds fr A (rc (rws s))) (hrdB : Rds fr B (rc (rws t))) :
    Does Try.prog 14 [.agg #[.slice A (rws s).length ca], .agg #[.slice B (rws t).length cb]] fr (fun _ : Unit => True) (fun _ => .bool (decide (((al r 1024).length : Int) = 0))) (fun _ => fr) := by
  subst hr; rw [← len_al]; exact within_c _ _ _ (rws_ok _) (rws_ok _) (rws_ok _) (hm_without s t) A B ca cb fr hrdA hrdB
theorem within_e (s t : Nat → Bool) (hr : layS 1 s t = emp) (A B : Option Addr) (ca cb : Nat) (fr : List Chunk) (hrdA : Rds fr A (rc (rws s))) (hrdB : Rds fr B (rc (rws t))) :
    Does Try.prog 14 [.agg #[.slice A (rws s).length ca], .agg #[.slice B (rws t).length cb]] fr (fun _ : Unit => True) (fun _ => .bool true) (fun _ => fr) := by
  have h := within_s s t emp hr A B ca cb fr hrdA hrdB
  rw [al_emp] at h
  exact h
theorem slen_e (A : Option Addr) (c : Nat) (fr : List Chunk) (hrd : Rds fr A (rc (rws emp))) : Does Try.prog 16 [.agg #[.slice A (rws emp).length c]] fr (fun _ : Unit => True) (fun _ => .int .i64 0) (fun _ => fr) := by
  have h := slen_s emp A c fr hrd
  rw [al_emp] at h
  exact h
theorem has_s (s : Nat → Bool) (A : Option Addr) (c : Nat) (n : Int) (fr : List Chunk) (hrd : Rds fr A (rc (rws s))) : Does Try.prog 21 [.agg #[.slice A (rws s).length c], .int .i64 n] fr (fun _ : Unit => True) (fun _ => .bool (inS s n)) (fun _ => fr) := by
  rw [← rws_has]; exact has_c _ (-1) (rws_sep s) A c n fr hrd (by have := (rws_ok s).len; omega)
theorem and_1023 : ∀ x : Fin 1024, bitv .and .i64 (x.val : Int) 1023 = (x.val : Int) := by decide +kernel
theorem and_in {n : Int} (h0 : 0 ≤ n) (h1 : n ≤ 1023) : bitv .and .i64 n 1023 = n := by
  have := and_1023 ⟨n.toNat, by omega⟩
  simp only at this
  rwa [Int.toNat_of_nonneg h0] at this
end Go.Proofs.Ytfegdehgnhomnaa
