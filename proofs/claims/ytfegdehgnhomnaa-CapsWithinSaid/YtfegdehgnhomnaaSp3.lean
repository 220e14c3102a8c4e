/-
Span: room; rows behind one another.
-/
import Derived.Test.YtfegdehgnhomnaaSp2
namespace Go.Proofs.Ytfegdehgnhomnaa
set_option linter.unusedVariables false
set_option linter.unusedSimpArgs false
open Eng
attribute [local irreducible] Eng.Hold Eng.Z Eng.S Eng.cells Eng.old Eng.own rc rcs at' hasB Sep lastTo push
theorem grow_c (n : Nat) (hn : n ≤ 1000000) (fr : List Chunk) : Does Try.prog 53 [.slice none 0 0, .int .i64 n] fr (fun _ : Option Addr × Nat => True) (fun x => .slice x.1 0 x.2) (fun x => own x.1 x.2 75 2 0 (rc []) :: fr) := by
  intro w hw
  refine f_enter Try.func53 rfl Try.ntmps53 rfl hw ?_
  by_cases h : n = 0
  · subst h
    repeat' (first
     | (refine s_is ?_; first
     | (refine s_isret ?_; first
     | (exact f_r1 rfl (res_t rfl) (none, 0) trivial rfl (fun w h => by rw [rc_nil]; exact h.nil 75 2)))
     | (refine s_isw ?_; first
     | refine c_seq ?_
     | refine c_region ?_
     | refine c_skip ?_
     | refine c_ret ?_
     | (refine s_iscond ?_; first
     | (refine c_false rfl (by first | with_reducible rfl | with_reducible assumption | ((with_reducible refine decide_eq_false ?_); first | with_reducible assumption | omega)) ?_))))
     | (refine z_isnil ?_; first
     | refine z_list ?_)
     | (refine z_isop ?_; first
     | refine o_cap tabOk rfl rfl (by decide) ?_
     | (refine z_isbin ?_; first
     | (refine z_isb .sub ?_; first
     | refine o_sub rfl rfl (by omega) (by omega) (by decide) ?_)
     | (refine z_isb .lss ?_; first
     | refine o_lt rfl rfl (by decide) ?_)
     | (refine z_isb .gtr ?_; first
     | refine o_gt rfl rfl (by decide) ?_))
     | (refine z_isbi ?_; first
     | refine o_len tabOk rfl rfl (by decide) ?_)
     | refine o_move rfl (by decide) ?_
     | refine o_assign rfl (by decide) ?_))
  · skip
    repeat' (first
     | ((refine z_isbi ?_; refine o_appendz (k := n) rfl tabOk zeroOk rfl rfl rfl rfl rfl rfl rfl (by omega) (by omega) (by omega) (by decide) fun A' c' => ?_))
     | (refine s_is ?_; first
     | (refine s_isret ?_; first
     | (exact f_r1 rfl (res_t rfl) (A', c') trivial rfl (fun w h => by rw [rc_nil]; exact h)))
     | (refine s_isw ?_; first
     | refine c_seq ?_
     | refine c_region ?_
     | refine c_skip ?_
     | refine c_ret ?_
     | (refine s_iscond ?_; first
     | (refine c_true rfl (by first | with_reducible rfl | with_reducible assumption | ((with_reducible refine decide_eq_true ?_); first | with_reducible rfl | with_reducible assumption | omega)) ?_)
     | (refine c_false rfl (by first | with_reducible rfl | with_reducible assumption | ((with_reducible refine decide_eq_false ?_); first | with_reducible assumption | omega)) ?_))))
     | (refine z_isnil ?_; first
     | refine z_list ?_)
     | (refine z_isop ?_; first
     | refine o_cap tabOk rfl rfl (by decide) ?_
     | (refine z_isbin ?_; first
     | (refine z_isb .sub ?_; first
     | refine o_sub rfl rfl (by omega) (by omega) (by decide) ?_)
     | (refine z_isb .lss ?_; first
     | refine o_lt rfl rfl (by decide) ?_)
     | (refine z_isb .gtr ?_; first
     | refine o_gt rfl rfl (by decide) ?_))
     | (refine z_isslice ?_; first
     | refine o_sliceh tabOk rfl rfl rfl rfl (by omega) (by omega) (by decide) ?_)
     | (refine z_isbi ?_; first
     | refine o_len tabOk rfl rfl (by decide) ?_)
     | refine o_move rfl (by decide) ?_
     | refine o_assign rfl (by decide) ?_))
/-- How many rows of the first k of two lists. -/
def two (a b : List Rw) (k : Nat) : List Rw := if k = 0 then [] else if k = 1 then a else a ++ b
theorem two_0 (a b : List Rw) : two a b 0 = [] := rfl
theorem two_1 (a b : List Rw) : two a b 1 = a := rfl
theorem two_2 (a b : List Rw) : two a b 2 = a ++ b := rfl
attribute [local irreducible] two
theorem concat_c (a b : List Rw) (A B : Option Addr) (ca cb g : Nat) (fr : List Chunk) (hrdS : Rds fr (some ⟨g, 0, none⟩) [.slice A a.length ca, .slice B b.length cb]) (hrdA : Rds fr A (rc a)) (hrdB : Rds fr B (rc b)) (hx : (a ++ b).length ≤ 1000000) :
    Does Try.prog 51 [.slice (some ⟨g, 0, none⟩) 2 2] fr (fun _ : Option Addr × Nat => True) (fun x => .slice x.1 (a ++ b).length x.2) (fun x => own x.1 x.2 75 2 (a ++ b).length (rc (a ++ b)) :: fr) := by
  intro w hw
  have hS0 : [Value.slice A a.length ca, Value.slice B b.length cb][0]? = some (.slice A a.length ca) := rfl
  have hS1 : [Value.slice A a.length ca, Value.slice B b.length cb][1]? = some (.slice B b.length cb) := rfl
  have hab : (a ++ b).length = a.length + b.length := List.length_append
  have hn0 : ([] : List Rw).length = 0 := rfl
  refine f_enter Try.func51 rfl Try.ntmps51 rfl hw ?_
  repeat' (first
   | (refine s_is ?_; first
   | (refine s_isw ?_; first
   | (refine s_isloop ?_; first
   | ((refine c_loop (X := Nat) (fun k => k ≤ 2) (fun k => [(0, .slice (some ⟨g, 0, none⟩) 2 2), (3, .int .i64 (two a b k).length), (9, .slice (some ⟨g, 0, none⟩) 2 2), (10, .int .i64 2), (11, .int .i64 k)]) (fun _ => fr) (fun k => 2 - k) 0 (Nat.zero_le _) ⟨rfl, (by rw [two_0]; rfl), rfl, rfl, rfl, trivial⟩ (fun w h => h) (fun k hk => ?_); refine hold ?_)))
   | refine c_seq ?_
   | refine c_block ?_
   | refine c_region ?_))
   | (refine z_isnil ?_; first
   | refine z_list ?_)
   | (refine z_isop ?_; first
   | (refine z_isbi ?_; first
   | refine o_len tabOk rfl rfl (by decide) ?_)
   | refine o_move rfl (by decide) ?_
   | refine o_assign rfl (by decide) ?_))
  refine Hold.go ?_
  obtain rfl | rfl | rfl : k = 0 ∨ k = 1 ∨ k = 2 := by omega
  · rw [two_0]
    repeat' (first
     | (refine s_is ?_; first
     | (refine s_isagain ?_; first
     | (exact c_again 1 (by omega) (by omega) ⟨rfl, (by rw [two_1]; exact congrArg some (congrArg (Value.int .i64) (Int.zero_add _))), rfl, rfl, rfl, trivial⟩ (fun w h => h)))
     | (refine s_isw ?_; first
     | refine c_seq ?_
     | refine c_block ?_
     | refine c_region ?_
     | refine c_skip ?_
     | (refine s_iscond ?_; first
     | (refine c_true rfl (by first | with_reducible rfl | with_reducible assumption | ((with_reducible refine decide_eq_true ?_); first | with_reducible rfl | with_reducible assumption | omega)) ?_)
     | (refine c_false rfl (by first | with_reducible rfl | with_reducible assumption | ((with_reducible refine decide_eq_false ?_); first | with_reducible assumption | omega)) ?_))))
     | (refine z_isnil ?_; first
     | refine z_list ?_)
     | (refine z_isop ?_; first
     | (refine z_isbin ?_; first
     | (refine z_isb .add ?_; first
     | refine o_add rfl rfl (by omega) (by omega) (by decide) ?_)
     | (refine z_isb .lss ?_; first
     | refine o_lt rfl rfl (by decide) ?_))
     | (refine z_isload ?_; first
     | refine o_loadr tabOk (by first | exact hrdS | exact Rds.cons _ hrdS | assumption) rfl rfl rfl (by first | exact hS0 | exact hS1 | rfl) (by decide) ?_)
     | (refine z_isix ?_; first
     | refine o_indexsk1 tabOk rfl rfl rfl rfl (by omega) (by omega) (by decide) ?_)
     | (refine z_isbi ?_; first
     | refine o_len tabOk rfl rfl (by decide) ?_)
     | refine o_move rfl (by decide) ?_
     | refine o_assign rfl (by decide) ?_))
  · rw [two_1]
    repeat' (first
     | (refine s_is ?_; first
     | (refine s_isagain ?_; first
     | (exact c_again 2 (by omega) (by omega) ⟨rfl, (by rw [two_2, hab]; rfl), rfl, rfl, rfl, trivial⟩ (fun w h => h)))
     | (refine s_isw ?_; first
     | refine c_seq ?_
     | refine c_block ?_
     | refine c_region ?_
     | refine c_skip ?_
     | (refine s_iscond ?_; first
     | (refine c_true rfl (by first | with_reducible rfl | with_reducible assumption | ((with_reducible refine decide_eq_true ?_); first | with_reducible rfl | with_reducible assumption | omega)) ?_)
     | (refine c_false rfl (by first | with_reducible rfl | with_reducible assumption | ((with_reducible refine decide_eq_false ?_); first | with_reducible assumption | omega)) ?_))))
     | (refine z_isnil ?_; first
     | refine z_list ?_)
     | (refine z_isop ?_; first
     | (refine z_isbin ?_; first
     | (refine z_isb .add ?_; first
     | refine o_add rfl rfl (by omega) (by omega) (by decide) ?_)
     | (refine z_isb .lss ?_; first
     | refine o_lt rfl rfl (by decide) ?_))
     | (refine z_isload ?_; first
     | refine o_loadr tabOk (by first | exact hrdS | exact Rds.cons _ hrdS | assumption) rfl rfl rfl (by first | exact hS0 | exact hS1 | rfl) (by decide) ?_)
     | (refine z_isix ?_; first
     | refine o_indexsk1 tabOk rfl rfl rfl rfl (by omega) (by omega) (by decide) ?_)
     | (refine z_isbi ?_; first
     | refine o_len tabOk rfl rfl (by decide) ?_)
     | refine o_move rfl (by decide) ?_
     | refine o_assign rfl (by decide) ?_))
  · rw [two_2]
    repeat' (first
     | (refine s_is ?_; first
     | (refine s_isw ?_; first
     | (refine s_isloop ?_; first
     | ((refine c_loop (X := Option Addr × Nat × Nat) (fun y => y.2.2 ≤ 2) (fun y => [(6, .slice y.1 (two a b y.2.2).length y.2.1), (25, .slice (some ⟨g, 0, none⟩) 2 2), (26, .int .i64 2), (27, .int .i64 y.2.2)]) (fun y => own y.1 y.2.1 75 2 (two a b y.2.2).length (rc (two a b y.2.2)) :: fr) (fun y => 2 - y.2.2) (x.1, x.2, 0) (Nat.zero_le _) ⟨(by dsimp only; rw [two_0]; rfl), rfl, rfl, rfl, trivial⟩ (fun w h => by dsimp only; rw [two_0]; exact h) (fun y hk => ?_); obtain ⟨D, d, k⟩ := y; dsimp only at hk ⊢; refine hold ?_)))
     | refine c_seq ?_
     | refine c_block ?_
     | refine c_region ?_
     | refine c_exit ?_
     | (refine s_iscond ?_; first
     | (refine c_false rfl (by first | with_reducible rfl | with_reducible assumption | ((with_reducible refine decide_eq_false ?_); first | with_reducible assumption | omega)) ?_))))
     | (refine z_isnil ?_; first
     | refine z_list ?_)
     | (refine z_isop ?_; first
     | (refine z_isbin ?_; first
     | (refine z_isb .lss ?_; first
     | refine o_lt rfl rfl (by decide) ?_))
     | (refine z_iscall ?_; first
     | ((refine z_iscallf 53 ?_; refine o_calla Try.func53 rfl rfl rfl (grow_c (a ++ b).length (by omega) _) (by decide) fun x _ => ?_)))
     | (refine z_isbi ?_; first
     | refine o_len tabOk rfl rfl (by decide) ?_)
     | refine o_move rfl (by decide) ?_
     | refine o_assign rfl (by decide) ?_))
    refine Hold.go ?_
    obtain rfl | rfl | rfl : k = 0 ∨ k = 1 ∨ k = 2 := by omega
    · rw [two_0]
      repeat' (first
       | ((refine z_isbi ?_; refine o_append rfl tabOk zeroOk rfl rfl rfl rfl rfl rfl (Rds.cons _ hrdA) (rc_len _) (rc_one _) (by simp only [List.length_nil]; omega) (by simp only [List.length_nil]; omega) (by decide) fun A' c' => ?_))
       | (refine s_is ?_; first
       | (refine s_isagain ?_; first
       | (exact c_again (A', c', 1) (by dsimp only; omega) (by dsimp only; omega) ⟨(by dsimp only; rw [two_1]; exact congrArg some (congrArg (fun m => Value.slice A' m c') (Nat.zero_add _))), rfl, rfl, rfl, trivial⟩ (fun w h => by dsimp only; rw [two_1]; rw [rc_nil, List.nil_append, List.length_nil, Nat.zero_add] at h; exact h)))
       | (refine s_isw ?_; first
       | refine c_seq ?_
       | refine c_block ?_
       | refine c_region ?_
       | refine c_skip ?_
       | (refine s_iscond ?_; first
       | (refine c_true rfl (by first | with_reducible rfl | with_reducible assumption | ((with_reducible refine decide_eq_true ?_); first | with_reducible rfl | with_reducible assumption | omega)) ?_))))
       | (refine z_isnil ?_; first
       | refine z_list ?_)
       | (refine z_isop ?_; first
       | (refine z_isbin ?_; first
       | (refine z_isb .add ?_; first
       | refine o_add rfl rfl (by omega) (by omega) (by decide) ?_)
       | (refine z_isb .lss ?_; first
       | refine o_lt rfl rfl (by decide) ?_))
       | (refine z_isload ?_; first
       | refine o_loadr tabOk (by first | exact hrdS | exact Rds.cons _ hrdS | assumption) rfl rfl rfl (by first | exact hS0 | exact hS1 | rfl) (by decide) ?_)
       | (refine z_isix ?_; first
       | refine o_indexsk1 tabOk rfl rfl rfl rfl (by omega) (by omega) (by decide) ?_)
       | refine o_move rfl (by decide) ?_
       | refine o_assign rfl (by decide) ?_))
    · rw [two_1]
      repeat' (first
       | ((refine z_isbi ?_; refine o_append rfl tabOk zeroOk rfl rfl rfl rfl rfl rfl (Rds.cons _ hrdB) (rc_len _) (rc_one _) (by omega) (by omega) (by decide) fun A' c' => ?_))
       | (refine s_is ?_; first
       | (refine s_isagain ?_; first
       | (exact c_again (A', c', 2) (by dsimp only; omega) (by dsimp only; omega) ⟨(by dsimp only; rw [two_2, hab]; rfl), rfl, rfl, rfl, trivial⟩ (fun w h => by dsimp only; rw [two_2, rc_app, hab]; exact h)))
       | (refine s_isw ?_; first
       | refine c_seq ?_
       | refine c_block ?_
       | refine c_region ?_
       | refine c_skip ?_
       | (refine s_iscond ?_; first
       | (refine c_true rfl (by first | with_reducible rfl | with_reducible assumption | ((with_reducible refine decide_eq_true ?_); first | with_reducible rfl | with_reducible assumption | omega)) ?_))))
       | (refine z_isnil ?_; first
       | refine z_list ?_)
       | (refine z_isop ?_; first
       | (refine z_isbin ?_; first
       | (refine z_isb .add ?_; first
       | refine o_add rfl rfl (by omega) (by omega) (by decide) ?_)
       | (refine z_isb .lss ?_; first
       | refine o_lt rfl rfl (by decide) ?_))
       | (refine z_isload ?_; first
       | refine o_loadr tabOk (by first | exact hrdS | exact Rds.cons _ hrdS | assumption) rfl rfl rfl (by first | exact hS0 | exact hS1 | rfl) (by decide) ?_)
       | (refine z_isix ?_; first
       | refine o_indexsk1 tabOk rfl rfl rfl rfl (by omega) (by omega) (by decide) ?_)
       | refine o_move rfl (by decide) ?_
       | refine o_assign rfl (by decide) ?_))
    · rw [two_2]
      repeat' (first
       | (refine s_is ?_; first
       | (refine s_isret ?_; first
       | exact f_r1 rfl (res_t rfl) (D, d) trivial rfl (fun w h => h))
       | (refine s_isw ?_; first
       | refine c_seq ?_
       | refine c_region ?_
       | refine c_ret ?_
       | refine c_exit ?_
       | (refine s_iscond ?_; first
       | (refine c_false rfl (by first | with_reducible rfl | with_reducible assumption | ((with_reducible refine decide_eq_false ?_); first | with_reducible assumption | omega)) ?_))))
       | (refine z_isnil ?_; first
       | refine z_list ?_)
       | (refine z_isop ?_; first
       | (refine z_isbin ?_; first
       | (refine z_isb .lss ?_; first
       | refine o_lt rfl rfl (by decide) ?_))
       | refine o_move rfl (by decide) ?_
       | refine o_assign rfl (by decide) ?_))
end Go.Proofs.Ytfegdehgnhomnaa
