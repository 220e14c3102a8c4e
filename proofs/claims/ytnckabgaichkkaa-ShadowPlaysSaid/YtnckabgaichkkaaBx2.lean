/-
Bind: the document's table: pages, uses, what is dropped.
-/
import Derived.Test.YtnckabgaichkkaaBx1
import Derived.Test.YtnckabgaichkkaaBi4
namespace Go.Proofs.Ytnckabgaichkkaa
set_option linter.unusedVariables false
set_option linter.unusedSimpArgs false
open Eng
def pcs (L : List (Int × Int)) : List Value := L.flatMap prc
theorem pcs_add (L : List (Int × Int)) (s p : Int) : pcs (L ++ [(s, p)]) = pcs L ++ [.int .i64 s, .int .i64 p] := by simp [pcs, prc]
theorem pcs_nil : pcs [] = [] := rfl
def usf (M : Mp) (f : Int) : Nat → Bool := fun k => onM M ((k / 32 : Nat) : Int) ((k % 32 : Nat) : Int) && decide (fM M ((k / 32 : Nat) : Int) ((k % 32 : Nat) : Int) = f)
def uss (M : Mp) (f : Int) : List (Int × Int) := prs (usf M f) 2048
theorem usf_sp {M : Mp} {f : Int} {s p : Nat} (hp : p < 32) : usf M f (s * 32 + p) = (onM M s p && decide (fM M s p = f)) := by
  unfold usf
  rw [show (s * 32 + p) / 32 = s by omega, show (s * 32 + p) % 32 = p by omega]
theorem plc_sp {s p : Nat} (hp : p < 32) : plc ((s * 32 + p : Nat) : Int) = ((s : Int), (p : Int)) := by
  unfold plc
  rw [show ((s * 32 + p : Nat) : Int) / 32 = s by omega, show ((s * 32 + p : Nat) : Int) % 32 = p by omega]
theorem pgs_al (M : Mp) (s : Int) : al (pgf M s) 32 = pgs M s := rfl
theorem uss_prs (M : Mp) (f : Int) : prs (usf M f) (64 * 32) = uss M f := rfl
attribute [local irreducible] Eng.Hold Eng.Z Eng.S Eng.cells Eng.old Eng.own Eng.mpc Eng.rgc Eng.onM Eng.fM Eng.wM Eng.upM Eng.delM
attribute [local irreducible] xs pgs ilS pcs
theorem xpages_c (t : Nat) (M : Mp) (hM : WM M) (s : Int) (fr : List Chunk) (hrd : Rds fr (some ⟨t, 0, none⟩) (xs M)) : Does Try.prog 16 [.pointer (some ⟨t, 0, none⟩), .int .i64 s] fr (fun _ : Option Addr × Nat => True) (fun x => .slice x.1 (pgs M s).length x.2) (fun x => own x.1 x.2 3 1 (pgs M s).length (ilS (pgs M s)) :: fr) := by
  intro w hw
  refine f_enter Try.func16 rfl Try.ntmps16 rfl hw ?_
  repeat' (first
   | (refine s_is ?_; first
   | (refine s_isw ?_; first
   | (refine s_isloop ?_; first
   | ((refine c_loop (X := Option Addr × Nat × Nat) (fun y => y.2.2 ≤ 32) (fun y => [(0, .pointer (some ⟨t, 0, none⟩)), (1, .int .i64 s), (5, .slice y.1 (al (pgf M s) y.2.2).length y.2.1), (6, .int .i64 y.2.2)]) (fun y => own y.1 y.2.1 3 1 (al (pgf M s) y.2.2).length (ilS (al (pgf M s) y.2.2)) :: fr) (fun y => 32 - y.2.2) (none, 0, 0) (Nat.zero_le _) ⟨rfl, rfl, rfl, rfl, trivial⟩ (fun w h => by unfold ilS; exact h.nil 3 1) (fun y hy => ?_); obtain ⟨A, c, k⟩ := y; dsimp only at hy ⊢; refine hold ?_)))
   | refine c_seq ?_
   | refine c_block ?_
   | refine c_region ?_))
   | (refine z_isnil ?_; first
   | refine z_list ?_)
   | (refine z_isop ?_; first
   | refine o_assign rfl (by decide) ?_))
  refine Hold.go ?_
  have hle := al_le (pgf M s) k
  by_cases hl : k < 32
  · have hg := xget_c t M hM s k (own A c 3 1 (al (pgf M s) k).length (ilS (al (pgf M s) k)) :: fr) (Rds.cons _ hrd)
    cases hon : onM M s k with
    | true =>
      have hn := al_yes (s := pgf M s) (n := k) hon
      have hil := ils_add (al (pgf M s) k) k
      rw [hon] at hg
      repeat' (first
       | ((refine z_isdst 14 ?_; refine o_callr rfl Try.func13 rfl rfl rfl hg (by decide) ?_))
       | (refine s_is ?_; first
       | (refine s_isagain ?_; first
       | (exact c_again (A', c', k + 1) (by dsimp only; omega) (by dsimp only; omega) ⟨rfl, rfl, (by dsimp only; rw [hn, List.length_append]; rfl), rfl, trivial⟩ (fun w h => by dsimp only; rw [hn, hil, List.length_append]; simp only [fronts, moveF, selF, sel1, nth, List.drop_succ_cons, List.drop_zero, List.eraseIdx_cons_zero, List.eraseIdx_cons_succ, maskL, List.cons_append, List.nil_append, List.append_eq, List.set_cons_zero, List.set_cons_succ] at h; exact ((h.sel 2 [0, 1] (by decide)).mask [true, false]))))
       | (refine s_isw ?_; first
       | refine c_seq ?_
       | refine c_block ?_
       | refine c_region ?_
       | refine c_skip ?_
       | (refine s_iscond ?_; first
       | (refine c_true rfl (by first | with_reducible rfl | with_reducible assumption | ((with_reducible refine decide_eq_true ?_); first | with_reducible rfl | with_reducible assumption | omega)) ?_))))
       | (refine z_isnil ?_; first
       | refine z_list ?_)
       | (refine z_isop ?_; first
       | (refine z_isbin ?_; first
       | (refine z_isb .add ?_; first
       | refine o_add rfl rfl (by omega) (by omega) (by decide) ?_)
       | (refine z_isb .lss ?_; first
       | refine o_lt rfl rfl (by decide) ?_))
       | (refine z_isfield ?_; first
       | refine o_fv tabOk rfl rfl rfl rfl rfl (by first | rfl | rfl) (by decide) ?_)
       | (refine z_ismakes ?_; first
       | refine o_make1 rfl tabOk zeroOk rfl rfl rfl rfl rfl (by decide) fun g => ?_)
       | (refine z_isbi ?_; first
       | (refine z_front rfl 1 rfl ?_; refine o_append rfl tabOk zeroOk rfl rfl rfl rfl rfl rfl (by first | exact own_rds 1 rfl | exact own_rds 0 rfl | exact hrd | exact cells_rds 0 rfl | exact cells_rds 1 rfl | exact own_rds 2 rfl | exact own_rds 3 rfl | assumption) (by first | rfl | rfl | (simp; done)) (by first | rfl | rfl | (simp; done)) (by omega) (by omega) (by decide) fun A' c' => ?_))
       | refine o_move rfl (by decide) ?_
       | refine o_assign rfl (by decide) ?_))
    | false =>
      have hn := al_no (s := pgf M s) (n := k) hon
      rw [hon] at hg
      repeat' (first
       | ((refine z_isdst 14 ?_; refine o_callr rfl Try.func13 rfl rfl rfl hg (by decide) ?_))
       | (refine s_is ?_; first
       | (refine s_isagain ?_; first
       | (exact c_again (A, c, k + 1) (by dsimp only; omega) (by dsimp only; omega) ⟨rfl, rfl, (by dsimp only; rw [hn]; rfl), rfl, trivial⟩ (fun w h => by dsimp only; rw [hn]; exact h)))
       | (refine s_isw ?_; first
       | refine c_seq ?_
       | refine c_block ?_
       | refine c_region ?_
       | refine c_skip ?_
       | (refine s_iscond ?_; first
       | (refine c_true rfl (by first | with_reducible rfl | with_reducible assumption | ((with_reducible refine decide_eq_true ?_); first | with_reducible rfl | with_reducible assumption | omega)) ?_)
       | (refine c_false rfl (by first | with_reducible rfl | with_reducible assumption | ((with_reducible refine decide_eq_false ?_); first | with_reducible assumption | omega)) ?_))))
       | (refine z_isnil ?_; first
       | refine z_list ?_)
       | (refine z_isop ?_; first
       | (refine z_isbin ?_; first
       | (refine z_isb .add ?_; first
       | refine o_add rfl rfl (by omega) (by omega) (by decide) ?_)
       | (refine z_isb .lss ?_; first
       | refine o_lt rfl rfl (by decide) ?_))
       | (refine z_isfield ?_; first
       | refine o_fv tabOk rfl rfl rfl rfl rfl (by first | rfl | rfl) (by decide) ?_)
       | refine o_move rfl (by decide) ?_
       | refine o_assign rfl (by decide) ?_))
  · obtain rfl : k = 32 := by omega
    rw [pgs_al]
    repeat' (first
     | (refine s_is ?_; first
     | (refine s_isret ?_; first
     | exact f_r1 rfl (res_t rfl) (A, c) trivial rfl (fun w h => h))
     | (refine s_isw ?_; first
     | refine c_seq ?_
     | refine c_region ?_
     | refine c_ret ?_
     | refine c_exit ?_
     | (refine s_iscond ?_; first
     | (refine c_false rfl (by first | with_reducible rfl | with_reducible assumption | ((with_reducible refine decide_eq_false ?_); first | with_reducible assumption | omega)) ?_))))
     | (refine z_isnil ?_; first
     | refine z_list ?_)
     | (refine z_isop ?_; first
     | (refine z_isbin ?_; first
     | (refine z_isb .lss ?_; first
     | refine o_lt rfl rfl (by decide) ?_))
     | refine o_move rfl (by decide) ?_
     | refine o_assign rfl (by decide) ?_))
set_option maxHeartbeats 4000000 in
theorem xuses_c (t : Nat) (M : Mp) (f : Int) (fr : List Chunk) (hrd : Rds fr (some ⟨t, 0, none⟩) (xs M)) : Does Try.prog 18 [.pointer (some ⟨t, 0, none⟩), .int .i64 f] fr (fun _ : Option Addr × Nat => True) (fun x => .slice x.1 (uss M f).length x.2) (fun x => own x.1 x.2 45 2 (uss M f).length (pcs (uss M f)) :: fr) := by
  intro w hw
  refine f_enter Try.func18 rfl Try.ntmps18 rfl hw ?_
  repeat' (first
   | (refine s_is ?_; first
   | (refine s_isw ?_; first
   | (refine s_isloop ?_; first
   | ((refine c_loop (X := Option Addr × Nat × Nat) (fun y => y.2.2 ≤ 64) (fun y => [(0, .pointer (some ⟨t, 0, none⟩)), (1, .int .i64 f), (5, .slice y.1 (prs (usf M f) (y.2.2 * 32)).length y.2.1), (6, .int .i64 y.2.2)]) (fun y => own y.1 y.2.1 45 2 (prs (usf M f) (y.2.2 * 32)).length (pcs (prs (usf M f) (y.2.2 * 32))) :: fr) (fun y => 64 - y.2.2) (none, 0, 0) (Nat.zero_le _) ⟨rfl, rfl, rfl, rfl, trivial⟩ (fun w h => by unfold pcs; exact h.nil 45 2) (fun y hy => ?_); obtain ⟨A, c, s⟩ := y; dsimp only at hy ⊢; refine hold ?_)))
   | refine c_seq ?_
   | refine c_block ?_
   | refine c_region ?_))
   | (refine z_isnil ?_; first
   | refine z_list ?_)
   | (refine z_isop ?_; first
   | refine o_assign rfl (by decide) ?_))
  refine Hold.go ?_
  by_cases hs : s < 64
  · skip
    repeat' (first
     | (refine s_is ?_; first
     | (refine s_isw ?_; first
     | (refine s_isloop ?_; first
     | ((refine c_loop (X := Option Addr × Nat × Nat) (fun y => y.2.2 ≤ 32) (fun y => [(0, .pointer (some ⟨t, 0, none⟩)), (1, .int .i64 f), (5, .slice y.1 (prs (usf M f) (s * 32 + y.2.2)).length y.2.1), (6, .int .i64 s), (7, .int .i64 y.2.2)]) (fun y => own y.1 y.2.1 45 2 (prs (usf M f) (s * 32 + y.2.2)).length (pcs (prs (usf M f) (s * 32 + y.2.2))) :: fr) (fun y => 32 - y.2.2) (A, c, 0) (Nat.zero_le _) ⟨rfl, rfl, rfl, rfl, rfl, trivial⟩ (fun w h => h) (fun y hy => ?_); obtain ⟨A, c, p⟩ := y; dsimp only at hy ⊢; refine hold ?_)))
     | refine c_seq ?_
     | refine c_block ?_
     | refine c_region ?_
     | refine c_skip ?_
     | (refine s_iscond ?_; first
     | (refine c_true rfl (by first | with_reducible rfl | with_reducible assumption | ((with_reducible refine decide_eq_true ?_); first | with_reducible rfl | with_reducible assumption | omega)) ?_))))
     | (refine z_isnil ?_; first
     | refine z_list ?_)
     | (refine z_isop ?_; first
     | (refine z_isbin ?_; first
     | (refine z_isb .lss ?_; first
     | refine o_lt rfl rfl (by decide) ?_))
     | refine o_move rfl (by decide) ?_
     | refine o_assign rfl (by decide) ?_))
    refine Hold.go ?_
    have hle := prs_le (usf M f) (s * 32 + p)
    by_cases hp : p < 32
    · have husf := usf_sp (M := M) (f := f) (s := s) hp
      have hpl := plc_sp (s := s) hp
      have hon : (xs M)[s * 96 + p * 3 + 0]? = some (.bool (onM M s p)) := xs_el M hs hp 0 _ rfl
      have hfm : (xs M)[s * 96 + p * 3 + 1]? = some (.int .i64 (fM M s p)) := xs_el M hs hp 1 _ rfl
      cases ho : onM M s p with
      | true =>
        rw [ho] at hon husf
        by_cases hf : fM M s p = f
        · rw [decide_eq_true hf] at husf
          have hn := prs_yes husf
          rw [hpl] at hn
          have hpc := pcs_add (prs (usf M f) (s * 32 + p)) s p
          repeat' (first
           | ((refine z_isdst 41 ?_; refine o_build (v := .agg #[.int .i64 s, .int .i64 p]) rfl (fun _ => by kernel_rfl) (by decide) ?_))
           | ((refine z_isdst 24 ?_; refine o_loadr tabOk (Rds.cons _ hrd) rfl rfl rfl hon (by decide) ?_))
           | ((refine z_isdst 34 ?_; refine o_loadr tabOk (Rds.cons _ hrd) rfl rfl rfl hfm (by decide) ?_))
           | (refine s_is ?_; first
           | (refine s_isagain ?_; first
           | (exact c_again (A', c', p + 1) (by dsimp only; omega) (by dsimp only; omega) ⟨rfl, rfl, (by dsimp only; rw [show s * 32 + (p + 1) = s * 32 + p + 1 from rfl, hn, List.length_append]; rfl), rfl, rfl, trivial⟩ (fun w h => by dsimp only; rw [show s * 32 + (p + 1) = s * 32 + p + 1 from rfl, hn, hpc, List.length_append]; simp only [fronts, moveF, selF, sel1, nth, List.drop_succ_cons, List.drop_zero, List.eraseIdx_cons_zero, List.eraseIdx_cons_succ, maskL, List.cons_append, List.nil_append, List.append_eq, List.set_cons_zero, List.set_cons_succ] at h; exact ((h.sel 2 [0, 1] (by decide)).mask [true, false]))))
           | (refine s_isw ?_; first
           | refine c_seq ?_
           | refine c_block ?_
           | refine c_region ?_
           | refine c_skip ?_
           | (refine s_iscond ?_; first
           | (refine c_true rfl (by first | with_reducible rfl | with_reducible assumption | ((with_reducible refine decide_eq_true ?_); first | with_reducible rfl | with_reducible assumption | omega)) ?_))))
           | (refine z_isg1 ?_; first
           | (refine z_want1 rfl rfl (by first | with_reducible rfl | with_reducible assumption | ((with_reducible refine decide_eq_true ?_); first | with_reducible rfl | with_reducible assumption | omega)) ?_))
           | (refine z_isnil ?_; first
           | refine z_list ?_)
           | (refine z_isop ?_; first
           | (refine o_makew (vs := [.int .i64 s, .int .i64 p]) rfl tabOk zeroOk rfl rfl rfl rfl rfl rfl rfl (by decide) fun gn => ?_)
           | refine o_indexm tabOk rfl rfl rfl rfl (by omega) (by omega) (by decide) ?_
           | refine o_indexn tabOk rfl rfl rfl rfl (by omega) (by omega) (by decide) ?_
           | (refine z_isbin ?_; first
           | (refine z_isb .add ?_; first
           | refine o_add rfl rfl (by omega) (by omega) (by decide) ?_)
           | (refine z_isb .eql ?_; first
           | refine o_eq rfl rfl (by decide) ?_)
           | (refine z_isb .lss ?_; first
           | refine o_lt rfl rfl (by decide) ?_))
           | (refine z_ispick ?_; first
           | (refine o_pick1 rfl (by first | with_reducible rfl | with_reducible assumption | ((with_reducible refine decide_eq_true ?_); first | with_reducible rfl | with_reducible assumption | omega)) rfl (by decide) ?_))
           | (refine z_isbi ?_; first
           | (refine z_front rfl 1 rfl ?_; refine o_append rfl tabOk zeroOk rfl rfl rfl rfl rfl rfl (by first | exact own_rds 1 rfl | exact own_rds 0 rfl | exact hrd | exact cells_rds 0 rfl | exact cells_rds 1 rfl | exact own_rds 2 rfl | exact own_rds 3 rfl | assumption) (by first | rfl | rfl | (simp; done)) (by first | rfl | rfl | (simp; done)) (by omega) (by omega) (by decide) fun A' c' => ?_))
           | refine o_move rfl (by decide) ?_
           | refine o_assign rfl (by decide) ?_
           | refine o_nil rfl (by decide) ?_
           | refine o_field0 tabOk rfl rfl rfl rfl rfl (by decide) ?_
           | refine o_field tabOk rfl rfl rfl rfl rfl (by decide) ?_))
        · rw [decide_eq_false hf] at husf
          have hn := prs_no husf
          repeat' (first
           | ((refine z_isdst 24 ?_; refine o_loadr tabOk (Rds.cons _ hrd) rfl rfl rfl hon (by decide) ?_))
           | ((refine z_isdst 34 ?_; refine o_loadr tabOk (Rds.cons _ hrd) rfl rfl rfl hfm (by decide) ?_))
           | (refine s_is ?_; first
           | (refine s_isagain ?_; first
           | (exact c_again (A, c, p + 1) (by dsimp only; omega) (by dsimp only; omega) ⟨rfl, rfl, (by dsimp only; rw [show s * 32 + (p + 1) = s * 32 + p + 1 from rfl, hn]; rfl), rfl, rfl, trivial⟩ (fun w h => by dsimp only; rw [show s * 32 + (p + 1) = s * 32 + p + 1 from rfl, hn]; exact h)))
           | (refine s_isw ?_; first
           | refine c_seq ?_
           | refine c_block ?_
           | refine c_region ?_
           | refine c_skip ?_
           | (refine s_iscond ?_; first
           | (refine c_true rfl (by first | with_reducible rfl | with_reducible assumption | ((with_reducible refine decide_eq_true ?_); first | with_reducible rfl | with_reducible assumption | omega)) ?_)
           | (refine c_false rfl (by first | with_reducible rfl | with_reducible assumption | ((with_reducible refine decide_eq_false ?_); first | with_reducible assumption | omega)) ?_))))
           | (refine z_isg1 ?_; first
           | (refine z_want1 rfl rfl (by first | with_reducible rfl | with_reducible assumption | ((with_reducible refine decide_eq_true ?_); first | with_reducible rfl | with_reducible assumption | omega)) ?_))
           | (refine z_isnil ?_; first
           | refine z_list ?_)
           | (refine z_isop ?_; first
           | refine o_indexm tabOk rfl rfl rfl rfl (by omega) (by omega) (by decide) ?_
           | refine o_indexn tabOk rfl rfl rfl rfl (by omega) (by omega) (by decide) ?_
           | (refine z_isbin ?_; first
           | (refine z_isb .add ?_; first
           | refine o_add rfl rfl (by omega) (by omega) (by decide) ?_)
           | (refine z_isb .eql ?_; first
           | refine o_eq rfl rfl (by decide) ?_)
           | (refine z_isb .lss ?_; first
           | refine o_lt rfl rfl (by decide) ?_))
           | (refine z_ispick ?_; first
           | (refine o_pick1 rfl (by first | with_reducible rfl | with_reducible assumption | ((with_reducible refine decide_eq_true ?_); first | with_reducible rfl | with_reducible assumption | omega)) rfl (by decide) ?_))
           | refine o_move rfl (by decide) ?_
           | refine o_assign rfl (by decide) ?_
           | refine o_nil rfl (by decide) ?_
           | refine o_field0 tabOk rfl rfl rfl rfl rfl (by decide) ?_
           | refine o_field tabOk rfl rfl rfl rfl rfl (by decide) ?_))
      | false =>
        rw [ho] at hon husf
        have hn := prs_no husf
        repeat' (first
         | ((refine z_isdst 24 ?_; refine o_loadr tabOk (Rds.cons _ hrd) rfl rfl rfl hon (by decide) ?_))
         | (refine s_is ?_; first
         | (refine s_isagain ?_; first
         | (exact c_again (A, c, p + 1) (by dsimp only; omega) (by dsimp only; omega) ⟨rfl, rfl, (by dsimp only; rw [show s * 32 + (p + 1) = s * 32 + p + 1 from rfl, hn]; rfl), rfl, rfl, trivial⟩ (fun w h => by dsimp only; rw [show s * 32 + (p + 1) = s * 32 + p + 1 from rfl, hn]; exact h)))
         | (refine s_isw ?_; first
         | refine c_seq ?_
         | refine c_block ?_
         | refine c_region ?_
         | refine c_skip ?_
         | (refine s_iscond ?_; first
         | (refine c_true rfl (by first | with_reducible rfl | with_reducible assumption | ((with_reducible refine decide_eq_true ?_); first | with_reducible rfl | with_reducible assumption | omega)) ?_)
         | (refine c_false rfl (by first | with_reducible rfl | with_reducible assumption | ((with_reducible refine decide_eq_false ?_); first | with_reducible assumption | omega)) ?_))))
         | (refine z_isg1 ?_; first
         | (refine z_skip1 (by decide) rfl rfl (by first | with_reducible rfl | with_reducible assumption | ((with_reducible refine decide_eq_false ?_); first | with_reducible assumption | omega)) ?_))
         | (refine z_isnil ?_; first
         | refine z_list ?_)
         | (refine z_isop ?_; first
         | refine o_indexm tabOk rfl rfl rfl rfl (by omega) (by omega) (by decide) ?_
         | refine o_indexn tabOk rfl rfl rfl rfl (by omega) (by omega) (by decide) ?_
         | (refine z_isbin ?_; first
         | (refine z_isb .add ?_; first
         | refine o_add rfl rfl (by omega) (by omega) (by decide) ?_)
         | (refine z_isb .lss ?_; first
         | refine o_lt rfl rfl (by decide) ?_))
         | (refine z_ispick ?_; first
         | (refine o_pick0 rfl (by first | with_reducible rfl | with_reducible assumption | ((with_reducible refine decide_eq_false ?_); first | with_reducible assumption | omega)) rfl (by decide) ?_))
         | refine o_move rfl (by decide) ?_
         | refine o_assign rfl (by decide) ?_
         | refine o_nil rfl (by decide) ?_
         | refine o_field0 tabOk rfl rfl rfl rfl rfl (by decide) ?_
         | refine o_field tabOk rfl rfl rfl rfl rfl (by decide) ?_))
    · obtain rfl : p = 32 := by omega
      repeat' (first
       | (refine s_is ?_; first
       | (refine s_isagain ?_; first
       | (exact c_again (A, c, s + 1) (by dsimp only; omega) (by dsimp only; omega) ⟨rfl, rfl, (by dsimp only; rw [show (s + 1) * 32 = s * 32 + 32 by omega]; rfl), rfl, trivial⟩ (fun w h => by dsimp only; rw [show (s + 1) * 32 = s * 32 + 32 by omega]; exact h)))
       | (refine s_isw ?_; first
       | refine c_seq ?_
       | refine c_region ?_
       | refine c_exit ?_
       | (refine s_iscond ?_; first
       | (refine c_false rfl (by first | with_reducible rfl | with_reducible assumption | ((with_reducible refine decide_eq_false ?_); first | with_reducible assumption | omega)) ?_))))
       | (refine z_isnil ?_; first
       | refine z_list ?_)
       | (refine z_isop ?_; first
       | (refine z_isbin ?_; first
       | (refine z_isb .add ?_; first
       | refine o_add rfl rfl (by omega) (by omega) (by decide) ?_)
       | (refine z_isb .lss ?_; first
       | refine o_lt rfl rfl (by decide) ?_))
       | refine o_move rfl (by decide) ?_
       | refine o_assign rfl (by decide) ?_))
  · obtain rfl : s = 64 := by omega
    rw [uss_prs]
    repeat' (first
     | (refine s_is ?_; first
     | (refine s_isret ?_; first
     | exact f_r1 rfl (res_t rfl) (A, c) trivial rfl (fun w h => h))
     | (refine s_isw ?_; first
     | refine c_seq ?_
     | refine c_region ?_
     | refine c_ret ?_
     | refine c_exit ?_
     | (refine s_iscond ?_; first
     | (refine c_false rfl (by first | with_reducible rfl | with_reducible assumption | ((with_reducible refine decide_eq_false ?_); first | with_reducible assumption | omega)) ?_))))
     | (refine z_isnil ?_; first
     | refine z_list ?_)
     | (refine z_isop ?_; first
     | (refine z_isbin ?_; first
     | (refine z_isb .lss ?_; first
     | refine o_lt rfl rfl (by decide) ?_))
     | refine o_move rfl (by decide) ?_
     | refine o_assign rfl (by decide) ?_))
end Go.Proofs.Ytnckabgaichkkaa
