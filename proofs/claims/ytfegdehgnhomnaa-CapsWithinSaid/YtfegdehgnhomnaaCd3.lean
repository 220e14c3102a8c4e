/-
Caps: the document's Revoke.
-/
import Derived.Test.YtfegdehgnhomnaaCd2
namespace Go.Proofs.Ytfegdehgnhomnaa
set_option linter.unusedVariables false
set_option linter.unusedSimpArgs false
open Eng
/-- Who is taken back. -/
def dR (T : Tq) (a : Int) (it : Bool) : Nat → Bool := fun i => decide ((T i).g ≠ 0) && (undF T a 64 i || (it && decide ((i : Int) = a)))
theorem dR_dead {T : Tq} {a : Int} {it : Bool} {n : Nat} (h : (T n).g = 0) : dR T a it n = false := by unfold dR; rw [decide_eq_false (fun e => e h)]; rfl
theorem dR_und {T : Tq} {a : Int} {it : Bool} {n : Nat} (h : (T n).g ≠ 0) (hu : undF T a 64 n = true) : dR T a it n = true := by unfold dR; rw [decide_eq_true h, hu]; rfl
theorem dR_self {T : Tq} {a : Int} {n : Nat} (h : (T n).g ≠ 0) (e : (n : Int) = a) : dR T a true n = true := by unfold dR; rw [decide_eq_true h, decide_eq_true e]; simp
theorem dR_no {T : Tq} {a : Int} {n : Nat} (hu : undF T a 64 n = false) : dR T a false n = false := by unfold dR; rw [hu]; simp
theorem dR_no2 {T : Tq} {a : Int} {n : Nat} (hu : undF T a 64 n = false) (e : (n : Int) ≠ a) : dR T a true n = false := by unfold dR; rw [hu, decide_eq_false e]; simp
/-- The first k of a list of places are emptied. -/
def zl (T : Tq) (L : List Int) : Nat → Tq
  | 0 => T
  | k + 1 => upd (zl T L k) (L.getD k 0).toNat Cq.zero
theorem zl_zero (T : Tq) (L : List Int) : zl T L 0 = T := rfl
theorem zl_succ (T : Tq) (L : List Int) (k : Nat) : upd (zl T L k) (L.getD k 0).toNat Cq.zero = zl T L (k + 1) := rfl
theorem al_getD {s : Nat → Bool} {n k : Nat} (h : k < (al s n).length) : 0 ≤ (al s n).getD k 0 ∧ (al s n).getD k 0 < n ∧ s ((al s n).getD k 0).toNat = true := by
  have e : (al s n).getD k 0 = (al s n)[k] := by simp [h]
  rw [e]
  exact (al_mem s _ n).1 (List.getElem_mem h)
theorem dunder_v (T : Tq) (l a : Int) (i : Nat) (b nb : Nat) (v : Bool) (hv : undF T a 64 i = v) (fr : List Chunk) (hD : Rds fr (some ⟨b, 0, none⟩) (dt nb l)) (hN : Rds fr (some ⟨nb, 0, none⟩) (dnn T)) (hT : Nm T) (hi : i < 64) : Does Try.prog 44 [.pointer (some ⟨b, 0, none⟩), .int .i64 i, .int .i64 a] fr (fun _ : Unit => True) (fun _ => .bool v) (fun _ => fr) := by
  rw [← hv]; exact dunder_c T l a i b nb fr hD hN hT hi
attribute [local irreducible] Eng.Hold Eng.Z Eng.S Eng.cells Eng.old Eng.own rc rws tq tqn Cq.cs emp dcs dnn dt bs layS al undF isN dl
attribute [local irreducible] ofS dR zl ilS
set_option maxHeartbeats 4000000 in
theorem drev_c (T : Tq) (l a : Int) (it : Bool) (b nb : Nat) (fr : List Chunk) (hT : Nm T) : Does Try.prog 29 [.pointer (some ⟨b, 0, none⟩), .int .i64 a, .bool it] (cells b 43 (dt nb l) :: cells nb 40 (dnn T) :: fr) (fun _ : Unit => True) (fun _ => .int .i64 (al (dR T a it) 64).length) (fun _ => cells b 43 (dt nb l) :: cells nb 40 (dnn (zl T (al (dR T a it) 64) (al (dR T a it) 64).length)) :: fr) := by
  intro w hw
  refine f_enter Try.func29 rfl Try.ntmps29 rfl hw ?_
  repeat' (first
   | (refine s_is ?_; first
   | (refine s_isw ?_; first
   | (refine s_isloop ?_; first
   | ((refine c_loop (X := Option Addr × Nat × Nat) (fun y => y.2.2 ≤ 64) (fun y => [(0, .pointer (some ⟨b, 0, none⟩)), (1, .int .i64 a), (2, .bool it), (7, .slice y.1 (al (dR T a it) y.2.2).length y.2.1), (8, .int .i64 y.2.2)]) (fun y => own y.1 y.2.1 3 1 (al (dR T a it) y.2.2).length (ilS (al (dR T a it) y.2.2)) :: cells b 43 (dt nb l) :: cells nb 40 (dnn T) :: fr) (fun y => 64 - y.2.2) (none, 0, 0) (Nat.zero_le _) ⟨rfl, rfl, rfl, (by dsimp only; rw [al_zero]; rfl), rfl, trivial⟩ (fun w h => by dsimp only; rw [al_zero, ilS_nil]; exact h.nil 3 1) (fun y hi => ?_); obtain ⟨B, e, n⟩ := y; dsimp only at hi ⊢; refine hold ?_)))
   | refine c_seq ?_
   | refine c_block ?_
   | refine c_region ?_))
   | (refine z_isnil ?_; first
   | refine z_list ?_)
   | (refine z_isop ?_; first
   | refine o_assign rfl (by decide) ?_))
  refine Hold.go ?_
  have hl := al_le (dR T a it) n
  by_cases h7 : n < 64
  · have hg0 := hT.g0 n h7
    by_cases hg : (T n).g = 0
    · have h1 := al_no (dR_dead (a := a) (it := it) hg)
      repeat' (first
       | (refine s_is ?_; first
       | (refine s_isagain ?_; first
       | (exact c_again (B, e, n + 1) (by dsimp only; omega) (by dsimp only; omega) ⟨rfl, rfl, rfl, (by dsimp only; rw [h1]; rfl), rfl, trivial⟩ (fun w h => by dsimp only; rw [h1]; exact h)))
       | (refine s_isw ?_; first
       | refine c_seq ?_
       | refine c_block ?_
       | refine c_region ?_
       | refine c_skip ?_
       | (refine s_iscond ?_; first
       | (refine c_true rfl (by first | with_reducible rfl | with_reducible assumption | ((with_reducible refine decide_eq_true ?_); first | with_reducible rfl | with_reducible assumption | omega)) ?_)
       | (refine c_false rfl (by first | with_reducible rfl | with_reducible assumption | ((with_reducible refine decide_eq_false ?_); first | with_reducible assumption | omega)) ?_))))
       | (refine z_isg1 ?_; first
       | refine z_skipu (by decide) rfl rfl ?_
       | (refine z_skip1 (by decide) rfl rfl (by first | (simp only [Bool.not_eq_false', decide_eq_true_eq]; omega) | (with_reducible assumption) | (rw [decide_eq_false] <;> (first | omega | with_reducible rfl)) | (rw [decide_eq_true] <;> (first | omega | with_reducible rfl)) | (simp; done) | (simp; omega)) ?_))
       | (refine z_isg0 ?_; first
       | refine z_skipu (by decide) rfl rfl ?_)
       | (refine z_isnil ?_; first
       | refine z_list ?_)
       | (refine z_isop ?_; first
       | refine o_indexskm tabOk rfl rfl rfl rfl (by omega) (by omega) (by decide) ?_
       | (refine z_isbin ?_; first
       | (refine z_isb .add ?_; first
       | refine o_add rfl rfl (by omega) (by omega) (by decide) ?_)
       | (refine z_isb .lss ?_; first
       | refine o_lt rfl rfl (by decide) ?_)
       | (refine z_isb .gtr ?_; first
       | refine o_gt rfl rfl (by decide) ?_))
       | (refine z_isload ?_; first
       | refine o_loadr tabOk (cells_rds 1 rfl) rfl rfl rfl (by first | exact dt_l _ _ | exact dt_n _ _ | exact dnn_at _ (by omega) (by omega) (dcs_g _) | exact dnn_at _ (by omega) (by omega) (dcs_p _) | (rw [ilS_at (by omega), hvv]) | rfl | rfl) (by decide) ?_
       | refine o_loadr tabOk (cells_rds 2 rfl) rfl rfl rfl (by first | exact dt_l _ _ | exact dt_n _ _ | exact dnn_at _ (by omega) (by omega) (dcs_g _) | exact dnn_at _ (by omega) (by omega) (dcs_p _) | (rw [ilS_at (by omega), hvv]) | rfl | rfl) (by decide) ?_)
       | (refine z_ispick ?_; first
       | (refine o_pick0 rfl (by first | (simp only [Bool.not_eq_false', decide_eq_true_eq]; omega) | (with_reducible assumption) | (rw [decide_eq_false] <;> (first | omega | with_reducible rfl)) | (rw [decide_eq_true] <;> (first | omega | with_reducible rfl)) | (simp; done) | (simp; omega)) rfl (by decide) ?_))
       | refine o_move rfl (by decide) ?_
       | refine o_assign rfl (by decide) ?_
       | refine o_nil rfl (by decide) ?_
       | refine o_field0 tabOk rfl rfl rfl rfl rfl (by decide) ?_
       | refine o_field tabOk rfl rfl rfl rfl rfl (by decide) ?_))
    · cases hu : undF T a 64 n with
      | true =>
        have h1 := al_yes (dR_und (it := it) hg hu)
        repeat' (first
         | ((refine z_isdst 27 ?_; refine o_callr rfl Try.func44 rfl rfl rfl (dunder_v T l a n b nb _ hu _ (cells_rds 1 rfl) (cells_rds 2 rfl) hT h7) (by decide) ?_))
         | (refine s_is ?_; first
         | (refine s_isagain ?_; first
         | (exact c_again (A', c', n + 1) (by dsimp only; omega) (by dsimp only; omega) ⟨rfl, rfl, rfl, (by dsimp only; rw [h1, List.length_append]; rfl), rfl, trivial⟩ (fun w h => by dsimp only; rw [h1, ilS_one, List.length_append]; exact ((h.sel 4 [0, 2, 3, 1] (by decide)).mask [true, true, true, false]))))
         | (refine s_isw ?_; first
         | refine c_seq ?_
         | refine c_block ?_
         | refine c_region ?_
         | refine c_skip ?_
         | (refine s_iscond ?_; first
         | (refine c_true rfl (by first | with_reducible rfl | with_reducible assumption | ((with_reducible refine decide_eq_true ?_); first | with_reducible rfl | with_reducible assumption | omega)) ?_))))
         | (refine z_isg1 ?_; first
         | refine z_skipu (by decide) rfl rfl ?_
         | (refine z_want1 rfl rfl (by first | (simp only [Bool.not_eq_true', decide_eq_false_iff_not]; omega) | (with_reducible assumption) | (rw [decide_eq_false] <;> (first | omega | with_reducible rfl)) | (rw [decide_eq_true] <;> (first | omega | with_reducible rfl)) | (simp; done) | (simp; omega)) ?_))
         | (refine z_isg0 ?_; first
         | refine z_skipu (by decide) rfl rfl ?_
         | (refine z_skip0 (by decide) rfl rfl (by first | with_reducible rfl | with_reducible assumption | ((with_reducible refine decide_eq_true ?_); first | with_reducible rfl | with_reducible assumption | omega)) ?_))
         | (refine z_isnil ?_; first
         | refine z_list ?_)
         | (refine z_isop ?_; first
         | refine o_indexskm tabOk rfl rfl rfl rfl (by omega) (by omega) (by decide) ?_
         | (refine z_isbin ?_; first
         | (refine z_isb .add ?_; first
         | refine o_add rfl rfl (by omega) (by omega) (by decide) ?_)
         | (refine z_isb .lss ?_; first
         | refine o_lt rfl rfl (by decide) ?_)
         | (refine z_isb .gtr ?_; first
         | refine o_gt rfl rfl (by decide) ?_))
         | (refine z_isload ?_; first
         | refine o_loadr tabOk (cells_rds 1 rfl) rfl rfl rfl (by first | exact dt_l _ _ | exact dt_n _ _ | exact dnn_at _ (by omega) (by omega) (dcs_g _) | exact dnn_at _ (by omega) (by omega) (dcs_p _) | (rw [ilS_at (by omega), hvv]) | rfl | rfl) (by decide) ?_
         | refine o_loadr tabOk (cells_rds 2 rfl) rfl rfl rfl (by first | exact dt_l _ _ | exact dt_n _ _ | exact dnn_at _ (by omega) (by omega) (dcs_g _) | exact dnn_at _ (by omega) (by omega) (dcs_p _) | (rw [ilS_at (by omega), hvv]) | rfl | rfl) (by decide) ?_)
         | (refine z_ismakes ?_; first
         | refine o_make1 rfl tabOk zeroOk rfl rfl rfl rfl rfl (by decide) fun g => ?_)
         | (refine z_ispick ?_; first
         | (refine o_pick1 rfl (by first | with_reducible rfl | with_reducible assumption | ((with_reducible refine decide_eq_true ?_); first | with_reducible rfl | with_reducible assumption | omega)) rfl (by decide) ?_)
         | (refine o_pick1 rfl (by first | (simp only [Bool.not_eq_true', decide_eq_false_iff_not]; omega) | (with_reducible assumption) | (rw [decide_eq_false] <;> (first | omega | with_reducible rfl)) | (rw [decide_eq_true] <;> (first | omega | with_reducible rfl)) | (simp; done) | (simp; omega)) rfl (by decide) ?_))
         | (refine z_isbi ?_; first
         | (refine z_front rfl 1 rfl ?_; refine o_append rfl tabOk zeroOk rfl rfl rfl rfl rfl rfl (by first | exact own_rds 0 rfl | exact own_rds 1 rfl | exact own_rds 2 rfl | assumption) (by first | rfl | rfl | (simp; done)) (by first | rfl | rfl | (simp; done)) (by omega) (by omega) (by decide) fun A' c' => ?_))
         | refine o_move rfl (by decide) ?_
         | refine o_assign rfl (by decide) ?_
         | refine o_nil rfl (by decide) ?_
         | refine o_field0 tabOk rfl rfl rfl rfl rfl (by decide) ?_
         | refine o_field tabOk rfl rfl rfl rfl rfl (by decide) ?_))
      | false =>
        cases it with
        | false =>
          have h1 := al_no (dR_no hu)
          repeat' (first
           | ((refine z_isdst 27 ?_; refine o_callr rfl Try.func44 rfl rfl rfl (dunder_v T l a n b nb _ hu _ (cells_rds 1 rfl) (cells_rds 2 rfl) hT h7) (by decide) ?_))
           | (refine s_is ?_; first
           | (refine s_isagain ?_; first
           | (exact c_again (B, e, n + 1) (by dsimp only; omega) (by dsimp only; omega) ⟨rfl, rfl, rfl, (by dsimp only; rw [h1]; rfl), rfl, trivial⟩ (fun w h => by dsimp only; rw [h1]; exact h)))
           | (refine s_isw ?_; first
           | refine c_seq ?_
           | refine c_block ?_
           | refine c_region ?_
           | refine c_skip ?_
           | (refine s_iscond ?_; first
           | (refine c_true rfl (by first | with_reducible rfl | with_reducible assumption | ((with_reducible refine decide_eq_true ?_); first | with_reducible rfl | with_reducible assumption | omega)) ?_)
           | (refine c_false rfl (by first | with_reducible rfl | with_reducible assumption | ((with_reducible refine decide_eq_false ?_); first | with_reducible assumption | omega)) ?_))))
           | (refine z_isg1 ?_; first
           | (refine z_skip1 (by decide) rfl rfl (by first | with_reducible rfl | with_reducible assumption | ((with_reducible refine decide_eq_false ?_); first | with_reducible assumption | omega)) ?_)
           | (refine z_want1 rfl rfl (by first | (simp only [Bool.not_eq_true', decide_eq_false_iff_not]; omega) | (with_reducible assumption) | (rw [decide_eq_false] <;> (first | omega | with_reducible rfl)) | (rw [decide_eq_true] <;> (first | omega | with_reducible rfl)) | (simp; done) | (simp; omega)) ?_))
           | (refine z_isg0 ?_; first
           | (refine z_want0 rfl rfl (by first | with_reducible rfl | with_reducible assumption | ((with_reducible refine decide_eq_false ?_); first | with_reducible assumption | omega)) ?_))
           | (refine z_isnil ?_; first
           | refine z_list ?_)
           | (refine z_isop ?_; first
           | refine o_indexskm tabOk rfl rfl rfl rfl (by omega) (by omega) (by decide) ?_
           | (refine z_isbin ?_; first
           | (refine z_isb .add ?_; first
           | refine o_add rfl rfl (by omega) (by omega) (by decide) ?_)
           | (refine z_isb .lss ?_; first
           | refine o_lt rfl rfl (by decide) ?_)
           | (refine z_isb .gtr ?_; first
           | refine o_gt rfl rfl (by decide) ?_))
           | (refine z_isload ?_; first
           | refine o_loadr tabOk (cells_rds 1 rfl) rfl rfl rfl (by first | exact dt_l _ _ | exact dt_n _ _ | exact dnn_at _ (by omega) (by omega) (dcs_g _) | exact dnn_at _ (by omega) (by omega) (dcs_p _) | (rw [ilS_at (by omega), hvv]) | rfl | rfl) (by decide) ?_
           | refine o_loadr tabOk (cells_rds 2 rfl) rfl rfl rfl (by first | exact dt_l _ _ | exact dt_n _ _ | exact dnn_at _ (by omega) (by omega) (dcs_g _) | exact dnn_at _ (by omega) (by omega) (dcs_p _) | (rw [ilS_at (by omega), hvv]) | rfl | rfl) (by decide) ?_)
           | (refine z_ispick ?_; first
           | (refine o_pick0 rfl (by first | with_reducible rfl | with_reducible assumption | ((with_reducible refine decide_eq_false ?_); first | with_reducible assumption | omega)) rfl (by decide) ?_)
           | (refine o_pick1 rfl (by first | (simp only [Bool.not_eq_true', decide_eq_false_iff_not]; omega) | (with_reducible assumption) | (rw [decide_eq_false] <;> (first | omega | with_reducible rfl)) | (rw [decide_eq_true] <;> (first | omega | with_reducible rfl)) | (simp; done) | (simp; omega)) rfl (by decide) ?_))
           | refine o_move rfl (by decide) ?_
           | refine o_assign rfl (by decide) ?_
           | refine o_nil rfl (by decide) ?_
           | refine o_field0 tabOk rfl rfl rfl rfl rfl (by decide) ?_
           | refine o_field tabOk rfl rfl rfl rfl rfl (by decide) ?_))
        | true =>
          by_cases he : (n : Int) = a
          · have h1 := al_yes (dR_self hg he)
            repeat' (first
             | ((refine z_isdst 27 ?_; refine o_callr rfl Try.func44 rfl rfl rfl (dunder_v T l a n b nb _ hu _ (cells_rds 1 rfl) (cells_rds 2 rfl) hT h7) (by decide) ?_))
             | (refine s_is ?_; first
             | (refine s_isagain ?_; first
             | (exact c_again (A', c', n + 1) (by dsimp only; omega) (by dsimp only; omega) ⟨rfl, rfl, rfl, (by dsimp only; rw [h1, List.length_append]; rfl), rfl, trivial⟩ (fun w h => by dsimp only; rw [h1, ilS_one, List.length_append]; exact ((h.sel 4 [0, 2, 3, 1] (by decide)).mask [true, true, true, false]))))
             | (refine s_isw ?_; first
             | refine c_seq ?_
             | refine c_block ?_
             | refine c_region ?_
             | refine c_skip ?_
             | (refine s_iscond ?_; first
             | (refine c_true rfl (by first | with_reducible rfl | with_reducible assumption | ((with_reducible refine decide_eq_true ?_); first | with_reducible rfl | with_reducible assumption | omega)) ?_))))
             | (refine z_isg1 ?_; first
             | (refine z_want1 rfl rfl (by first | with_reducible rfl | with_reducible assumption | ((with_reducible refine decide_eq_true ?_); first | with_reducible rfl | with_reducible assumption | omega)) ?_)
             | (refine z_want1 rfl rfl (by first | (simp only [Bool.not_eq_true', decide_eq_false_iff_not]; omega) | (with_reducible assumption) | (rw [decide_eq_false] <;> (first | omega | with_reducible rfl)) | (rw [decide_eq_true] <;> (first | omega | with_reducible rfl)) | (simp; done) | (simp; omega)) ?_))
             | (refine z_isg0 ?_; first
             | (refine z_want0 rfl rfl (by first | with_reducible rfl | with_reducible assumption | ((with_reducible refine decide_eq_false ?_); first | with_reducible assumption | omega)) ?_))
             | (refine z_isnil ?_; first
             | refine z_list ?_)
             | (refine z_isop ?_; first
             | refine o_indexskm tabOk rfl rfl rfl rfl (by omega) (by omega) (by decide) ?_
             | (refine z_isbin ?_; first
             | (refine z_isb .add ?_; first
             | refine o_add rfl rfl (by omega) (by omega) (by decide) ?_)
             | (refine z_isb .eql ?_; first
             | refine o_eq rfl rfl (by decide) ?_)
             | (refine z_isb .lss ?_; first
             | refine o_lt rfl rfl (by decide) ?_)
             | (refine z_isb .gtr ?_; first
             | refine o_gt rfl rfl (by decide) ?_))
             | (refine z_isload ?_; first
             | refine o_loadr tabOk (cells_rds 1 rfl) rfl rfl rfl (by first | exact dt_l _ _ | exact dt_n _ _ | exact dnn_at _ (by omega) (by omega) (dcs_g _) | exact dnn_at _ (by omega) (by omega) (dcs_p _) | (rw [ilS_at (by omega), hvv]) | rfl | rfl) (by decide) ?_
             | refine o_loadr tabOk (cells_rds 2 rfl) rfl rfl rfl (by first | exact dt_l _ _ | exact dt_n _ _ | exact dnn_at _ (by omega) (by omega) (dcs_g _) | exact dnn_at _ (by omega) (by omega) (dcs_p _) | (rw [ilS_at (by omega), hvv]) | rfl | rfl) (by decide) ?_)
             | (refine z_ismakes ?_; first
             | refine o_make1 rfl tabOk zeroOk rfl rfl rfl rfl rfl (by decide) fun g => ?_)
             | (refine z_ispick ?_; first
             | (refine o_pick1 rfl (by first | with_reducible rfl | with_reducible assumption | ((with_reducible refine decide_eq_true ?_); first | with_reducible rfl | with_reducible assumption | omega)) rfl (by decide) ?_)
             | (refine o_pick0 rfl (by first | with_reducible rfl | with_reducible assumption | ((with_reducible refine decide_eq_false ?_); first | with_reducible assumption | omega)) rfl (by decide) ?_)
             | (refine o_pick1 rfl (by first | (simp only [Bool.not_eq_true', decide_eq_false_iff_not]; omega) | (with_reducible assumption) | (rw [decide_eq_false] <;> (first | omega | with_reducible rfl)) | (rw [decide_eq_true] <;> (first | omega | with_reducible rfl)) | (simp; done) | (simp; omega)) rfl (by decide) ?_))
             | (refine z_isbi ?_; first
             | (refine z_front rfl 1 rfl ?_; refine o_append rfl tabOk zeroOk rfl rfl rfl rfl rfl rfl (by first | exact own_rds 0 rfl | exact own_rds 1 rfl | exact own_rds 2 rfl | assumption) (by first | rfl | rfl | (simp; done)) (by first | rfl | rfl | (simp; done)) (by omega) (by omega) (by decide) fun A' c' => ?_))
             | refine o_move rfl (by decide) ?_
             | refine o_assign rfl (by decide) ?_
             | refine o_nil rfl (by decide) ?_
             | refine o_field0 tabOk rfl rfl rfl rfl rfl (by decide) ?_
             | refine o_field tabOk rfl rfl rfl rfl rfl (by decide) ?_))
          · have h1 := al_no (dR_no2 hu he)
            repeat' (first
             | ((refine z_isdst 27 ?_; refine o_callr rfl Try.func44 rfl rfl rfl (dunder_v T l a n b nb _ hu _ (cells_rds 1 rfl) (cells_rds 2 rfl) hT h7) (by decide) ?_))
             | (refine s_is ?_; first
             | (refine s_isagain ?_; first
             | (exact c_again (B, e, n + 1) (by dsimp only; omega) (by dsimp only; omega) ⟨rfl, rfl, rfl, (by dsimp only; rw [h1]; rfl), rfl, trivial⟩ (fun w h => by dsimp only; rw [h1]; exact h)))
             | (refine s_isw ?_; first
             | refine c_seq ?_
             | refine c_block ?_
             | refine c_region ?_
             | refine c_skip ?_
             | (refine s_iscond ?_; first
             | (refine c_true rfl (by first | with_reducible rfl | with_reducible assumption | ((with_reducible refine decide_eq_true ?_); first | with_reducible rfl | with_reducible assumption | omega)) ?_)
             | (refine c_false rfl (by first | with_reducible rfl | with_reducible assumption | ((with_reducible refine decide_eq_false ?_); first | with_reducible assumption | omega)) ?_))))
             | (refine z_isg1 ?_; first
             | (refine z_want1 rfl rfl (by first | with_reducible rfl | with_reducible assumption | ((with_reducible refine decide_eq_true ?_); first | with_reducible rfl | with_reducible assumption | omega)) ?_)
             | (refine z_want1 rfl rfl (by first | (simp only [Bool.not_eq_true', decide_eq_false_iff_not]; omega) | (with_reducible assumption) | (rw [decide_eq_false] <;> (first | omega | with_reducible rfl)) | (rw [decide_eq_true] <;> (first | omega | with_reducible rfl)) | (simp; done) | (simp; omega)) ?_))
             | (refine z_isg0 ?_; first
             | (refine z_want0 rfl rfl (by first | with_reducible rfl | with_reducible assumption | ((with_reducible refine decide_eq_false ?_); first | with_reducible assumption | omega)) ?_))
             | (refine z_isnil ?_; first
             | refine z_list ?_)
             | (refine z_isop ?_; first
             | refine o_indexskm tabOk rfl rfl rfl rfl (by omega) (by omega) (by decide) ?_
             | (refine z_isbin ?_; first
             | (refine z_isb .add ?_; first
             | refine o_add rfl rfl (by omega) (by omega) (by decide) ?_)
             | (refine z_isb .eql ?_; first
             | refine o_eq rfl rfl (by decide) ?_)
             | (refine z_isb .lss ?_; first
             | refine o_lt rfl rfl (by decide) ?_)
             | (refine z_isb .gtr ?_; first
             | refine o_gt rfl rfl (by decide) ?_))
             | (refine z_isload ?_; first
             | refine o_loadr tabOk (cells_rds 1 rfl) rfl rfl rfl (by first | exact dt_l _ _ | exact dt_n _ _ | exact dnn_at _ (by omega) (by omega) (dcs_g _) | exact dnn_at _ (by omega) (by omega) (dcs_p _) | (rw [ilS_at (by omega), hvv]) | rfl | rfl) (by decide) ?_
             | refine o_loadr tabOk (cells_rds 2 rfl) rfl rfl rfl (by first | exact dt_l _ _ | exact dt_n _ _ | exact dnn_at _ (by omega) (by omega) (dcs_g _) | exact dnn_at _ (by omega) (by omega) (dcs_p _) | (rw [ilS_at (by omega), hvv]) | rfl | rfl) (by decide) ?_)
             | (refine z_ispick ?_; first
             | (refine o_pick1 rfl (by first | with_reducible rfl | with_reducible assumption | ((with_reducible refine decide_eq_true ?_); first | with_reducible rfl | with_reducible assumption | omega)) rfl (by decide) ?_)
             | (refine o_pick0 rfl (by first | with_reducible rfl | with_reducible assumption | ((with_reducible refine decide_eq_false ?_); first | with_reducible assumption | omega)) rfl (by decide) ?_)
             | (refine o_pick1 rfl (by first | (simp only [Bool.not_eq_true', decide_eq_false_iff_not]; omega) | (with_reducible assumption) | (rw [decide_eq_false] <;> (first | omega | with_reducible rfl)) | (rw [decide_eq_true] <;> (first | omega | with_reducible rfl)) | (simp; done) | (simp; omega)) rfl (by decide) ?_))
             | refine o_move rfl (by decide) ?_
             | refine o_assign rfl (by decide) ?_
             | refine o_nil rfl (by decide) ?_
             | refine o_field0 tabOk rfl rfl rfl rfl rfl (by decide) ?_
             | refine o_field tabOk rfl rfl rfl rfl rfl (by decide) ?_))
  · obtain rfl : n = 64 := by omega
    have hmem : ∀ k, k < (al (dR T a it) 64).length → 0 ≤ (al (dR T a it) 64).getD k 0 ∧ (al (dR T a it) 64).getD k 0 < 64 := fun k hk => ⟨(al_getD hk).1, (al_getD hk).2.1⟩
    generalize al (dR T a it) 64 = L at *
    repeat' (first
     | (refine s_is ?_; first
     | (refine s_isw ?_; first
     | (refine s_isloop ?_; first
     | ((refine c_loop (X := Nat) (fun k => k ≤ L.length) (fun k => [(0, .pointer (some ⟨b, 0, none⟩)), (7, .slice B L.length e), (9, .int .i64 k)]) (fun k => own B e 3 1 L.length (ilS L) :: cells b 43 (dt nb l) :: cells nb 40 (dnn (zl T L k)) :: fr) (fun k => L.length - k) 0 (Nat.zero_le _) ⟨rfl, rfl, rfl, trivial⟩ (fun w h => by rw [zl_zero]; exact h) (fun k hk => ?_); refine c_own2 0 rfl fun hkc hne => ?_; refine hold ?_)))
     | refine c_seq ?_
     | refine c_block ?_
     | refine c_region ?_
     | refine c_exit ?_
     | (refine s_iscond ?_; first
     | (refine c_false rfl (by first | with_reducible rfl | with_reducible assumption | ((with_reducible refine decide_eq_false ?_); first | with_reducible assumption | omega)) ?_))))
     | (refine z_isnil ?_; first
     | refine z_list ?_)
     | (refine z_isop ?_; first
     | (refine z_isbin ?_; first
     | (refine z_isb .lss ?_; first
     | refine o_lt rfl rfl (by decide) ?_))
     | refine o_move rfl (by decide) ?_
     | refine o_assign rfl (by decide) ?_))
    refine Hold.go ?_
    by_cases h8 : k < L.length
    · obtain ⟨hm0, hm1⟩ := hmem k h8
      have hz := zl_succ T L k
      generalize hvv : L.getD k 0 = v at *
      repeat' (first
       | ((refine z_isdst 55 ?_; refine o_build0 (t := 40) (v := .agg (dcs Cq.zero).toArray) (fun _ => by rw [dcs_zero0]; kernel_rfl) (by decide) ?_))
       | (refine s_is ?_; first
       | (refine s_isagain ?_; first
       | (exact c_again (k + 1) (by omega) (by omega) ⟨rfl, rfl, rfl, trivial⟩ (fun w h => by rw [← hz]; exact h)))
       | (refine s_isw ?_; first
       | refine c_seq ?_
       | refine c_block ?_
       | refine c_region ?_
       | refine c_mixed mixed (by kernel_rfl) ?_
       | refine c_skip ?_
       | (refine s_iscond ?_; first
       | (refine c_true rfl (by first | with_reducible rfl | with_reducible assumption | ((with_reducible refine decide_eq_true ?_); first | with_reducible rfl | with_reducible assumption | omega)) ?_))))
       | (refine z_isnil ?_; first
       | refine z_list ?_
       | refine z_mixed ?_)
       | (refine z_isop ?_; first
       | refine o_indexs1 tabOk (hne (by omega)) rfl rfl rfl rfl (by omega) (by omega) (by decide) ?_
       | refine o_indexskm tabOk rfl rfl rfl rfl (by omega) (by omega) (by decide) ?_
       | (refine z_isbin ?_; first
       | (refine z_isb .add ?_; first
       | refine o_add rfl rfl (by omega) (by omega) (by decide) ?_)
       | (refine z_isb .lss ?_; first
       | refine o_lt rfl rfl (by decide) ?_))
       | (refine z_isload ?_; first
       | refine o_loadr tabOk (cells_rds 1 rfl) rfl rfl rfl (by first | exact dt_l _ _ | exact dt_n _ _ | exact dnn_at _ (by omega) (by omega) (dcs_g _) | exact dnn_at _ (by omega) (by omega) (dcs_p _) | (rw [ilS_at (by omega), hvv]) | rfl | rfl) (by decide) ?_
       | (refine z_ld1 tabOk rfl rfl ?_; first
       | refine o_loads tabOk (by first | exact own_rds 0 rfl | exact own_rds 1 rfl | exact own_rds 2 rfl | assumption) rfl rfl rfl (by first | exact dt_l _ _ | exact dt_n _ _ | exact dnn_at _ (by omega) (by omega) (dcs_g _) | exact dnn_at _ (by omega) (by omega) (dcs_p _) | (rw [ilS_at (by omega), hvv]) | rfl | rfl) (by decide) ?_))
       | (refine z_isstore ?_; first
       | refine o_storew_at rfl 2 tabOk rfl rfl rfl rfl (dcs_len _) (dcs_one _) (dnn_fit _ (i := v.toNat) (by omega) _) (dnn_puty _ (i := v.toNat) (by omega) _) ?_)
       | (refine z_isbi ?_; first
       | refine o_len tabOk rfl rfl (by decide) ?_)
       | refine o_move rfl (by decide) ?_
       | refine o_assign rfl (by decide) ?_
       | refine o_nil rfl (by decide) ?_
       | refine o_field0 tabOk rfl rfl rfl rfl rfl (by decide) ?_))
    · obtain rfl : k = L.length := by omega
      repeat' (first
       | (refine s_is ?_; first
       | (refine s_isret ?_; first
       | exact f_r1 rfl (res_t rfl) () trivial rfl (fun w h => ((h.sel 3 [1, 2, 0] (by decide)).mask [true, true, false])))
       | (refine s_isw ?_; first
       | refine c_seq ?_
       | refine c_region ?_
       | refine c_ret ?_
       | refine c_exit ?_
       | (refine s_iscond ?_; first
       | (refine c_false rfl (by first | with_reducible rfl | with_reducible assumption | ((with_reducible refine decide_eq_false ?_); first | with_reducible assumption | omega)) ?_))))
       | (refine z_isnil ?_; first
       | refine z_list ?_)
       | (refine z_isop ?_; first
       | (refine z_isbin ?_; first
       | (refine z_isb .lss ?_; first
       | refine o_lt rfl rfl (by decide) ?_))
       | (refine z_isbi ?_; first
       | refine o_len tabOk rfl rfl (by decide) ?_)
       | refine o_move rfl (by decide) ?_
       | refine o_assign rfl (by decide) ?_))
end Go.Proofs.Ytfegdehgnhomnaa
