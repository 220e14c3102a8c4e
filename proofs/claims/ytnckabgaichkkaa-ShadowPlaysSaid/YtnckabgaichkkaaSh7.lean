/-
Shadow: the document's table: all that is out; what is dropped; the same places.
-/
import Derived.Test.YtnckabgaichkkaaSh6
namespace Go.Proofs.Ytnckabgaichkkaa
set_option linter.unusedVariables false
set_option linter.unusedSimpArgs false
open Eng
/-- What a drop tells: those that were out. -/
def dof (M O : Mp) (sp fm : Int) : Nat → Bool := fun k => dmf M sp (-1) fm k && onf O k
theorem dof_sp {M O : Mp} {sp fm : Int} {s p : Nat} (hp : p < 32) : dof M O sp fm (s * 32 + p) = ((onM M s p && mine M sp (-1) fm s p) && onM O s p) := by
  unfold dof
  rw [dmf_sp hp, onf_sp O hp]
theorem onM_rm (O : Mp) (g : Nat → Bool) (s p : Nat) : onM (rmM O g (s * 32 + p)) s p = onM O s p := by
  unfold onM
  rw [rmM_at O g (Nat.le_refl _)]
attribute [local irreducible] Eng.Hold Eng.Z Eng.S Eng.cells Eng.old Eng.own Eng.mpc Eng.rgc Eng.onM Eng.fM Eng.wM Eng.upM Eng.delM
attribute [local irreducible] uss pcs pgs ilS dls row xs dmf rmM aM1 aM2 eqB usf flt onf os dof
set_option maxHeartbeats 4000000 in
theorem yall_c (t : Nat) (M O : Mp) (fr : List Chunk) (hrd : Rds fr (some ⟨t, 0, none⟩) (xs M ++ os O)) : Does Try.prog 34 [.pointer (some ⟨t, 0, none⟩)] fr (fun _ : Option Addr × Nat => True) (fun x => .slice x.1 (prs (onf O) 2048).length x.2) (fun x => own x.1 x.2 45 2 (prs (onf O) 2048).length (pcs (prs (onf O) 2048)) :: fr) := by
  intro w hw
  refine f_enter Try.func34 rfl Try.ntmps34 rfl hw ?_
  repeat' (first
   | (refine s_is ?_; first
   | (refine s_isw ?_; first
   | (refine s_isloop ?_; first
   | ((refine c_loop (X := Option Addr × Nat × Nat) (fun y => y.2.2 ≤ 64) (fun y => [(0, .pointer (some ⟨t, 0, none⟩)), (3, .slice y.1 (prs (onf O) (y.2.2 * 32)).length y.2.1), (4, .int .i64 y.2.2)]) (fun y => own y.1 y.2.1 45 2 (prs (onf O) (y.2.2 * 32)).length (pcs (prs (onf O) (y.2.2 * 32))) :: fr) (fun y => 64 - y.2.2) (none, 0, 0) (Nat.zero_le _) ⟨rfl, rfl, rfl, trivial⟩ (fun w h => by unfold pcs; exact h.nil 45 2) (fun y hy => ?_); obtain ⟨A, c, s⟩ := y; dsimp only at hy ⊢; refine hold ?_)))
   | refine c_seq ?_
   | refine c_block ?_
   | refine c_region ?_))
   | (refine z_isnil ?_; first
   | refine z_list ?_)
   | (refine z_isop ?_; first
   | refine o_assign rfl (by decide) ?_))
  refine Hold.go ?_
  by_cases hs : s < 64
  · skip
    repeat' (first
     | (refine s_is ?_; first
     | (refine s_isw ?_; first
     | (refine s_isloop ?_; first
     | ((refine c_loop (X := Option Addr × Nat × Nat) (fun y => y.2.2 ≤ 32) (fun y => [(0, .pointer (some ⟨t, 0, none⟩)), (3, .slice y.1 (prs (onf O) (s * 32 + y.2.2)).length y.2.1), (4, .int .i64 s), (5, .int .i64 y.2.2)]) (fun y => own y.1 y.2.1 45 2 (prs (onf O) (s * 32 + y.2.2)).length (pcs (prs (onf O) (s * 32 + y.2.2))) :: fr) (fun y => 32 - y.2.2) (A, c, 0) (Nat.zero_le _) ⟨rfl, rfl, rfl, rfl, trivial⟩ (fun w h => h) (fun y hy => ?_); obtain ⟨A, c, p⟩ := y; dsimp only at hy ⊢; refine hold ?_)))
     | refine c_seq ?_
     | refine c_block ?_
     | refine c_region ?_
     | refine c_skip ?_
     | (refine s_iscond ?_; first
     | (refine c_true rfl (by first | with_reducible rfl | with_reducible assumption | ((with_reducible refine decide_eq_true ?_); first | with_reducible rfl | with_reducible assumption | omega)) ?_))))
     | (refine z_isnil ?_; first
     | refine z_list ?_)
     | (refine z_isop ?_; first
     | (refine z_isbin ?_; first
     | (refine z_isb .lss ?_; first
     | refine o_lt rfl rfl (by decide) ?_))
     | refine o_move rfl (by decide) ?_
     | refine o_assign rfl (by decide) ?_))
    refine Hold.go ?_
    have hle := prs_le (onf O) (s * 32 + p)
    by_cases hp : p < 32
    · have husf := onf_sp O (s := s) hp
      have hpl := plc_sp (s := s) hp
      have hel := zo_el M O hs hp
      cases ho : onM O s p with
      | true =>
        rw [ho] at hel husf
        have hn := prs_yes husf
        rw [hpl] at hn
        have hpc := pcs_add (prs (onf O) (s * 32 + p)) s p
        repeat' (first
         | ((refine z_isdst 25 ?_; refine o_build (v := .agg #[.int .i64 s, .int .i64 p]) rfl (fun _ => by kernel_rfl) (by decide) ?_))
         | ((refine z_isdst 21 ?_; refine o_loadr tabOk (Rds.cons _ hrd) rfl rfl rfl hel (by decide) ?_))
         | (refine s_is ?_; first
         | (refine s_isagain ?_; first
         | (exact c_again (A', c', p + 1) (by dsimp only; omega) (by dsimp only; omega) ⟨rfl, (by dsimp only; rw [show s * 32 + (p + 1) = s * 32 + p + 1 from rfl, hn, List.length_append]; rfl), rfl, rfl, trivial⟩ (fun w h => by dsimp only; rw [show s * 32 + (p + 1) = s * 32 + p + 1 from rfl, hn, hpc, List.length_append]; simp only [fronts, moveF, selF, sel1, nth, List.drop_succ_cons, List.drop_zero, List.eraseIdx_cons_zero, List.eraseIdx_cons_succ, maskL, List.cons_append, List.nil_append, List.append_eq, List.set_cons_zero, List.set_cons_succ] at h; exact ((h.sel 2 [0, 1] (by decide)).mask [true, false]))))
         | (refine s_isw ?_; first
         | refine c_seq ?_
         | refine c_block ?_
         | refine c_region ?_
         | refine c_skip ?_
         | (refine s_iscond ?_; first
         | (refine c_true rfl (by first | with_reducible rfl | with_reducible assumption | ((with_reducible refine decide_eq_true ?_); first | with_reducible rfl | with_reducible assumption | omega)) ?_))))
         | (refine z_isnil ?_; first
         | refine z_list ?_)
         | (refine z_isop ?_; first
         | (refine o_makew (vs := [.int .i64 s, .int .i64 p]) rfl tabOk zeroOk rfl rfl rfl rfl rfl rfl rfl (by decide) fun gn => ?_)
         | refine o_indexn tabOk rfl rfl rfl rfl (by omega) (by omega) (by decide) ?_
         | (refine z_isbin ?_; first
         | (refine z_isb .add ?_; first
         | refine o_add rfl rfl (by omega) (by omega) (by decide) ?_)
         | (refine z_isb .lss ?_; first
         | refine o_lt rfl rfl (by decide) ?_))
         | (refine z_isbi ?_; first
         | (refine z_front rfl 1 rfl ?_; refine o_append rfl tabOk zeroOk rfl rfl rfl rfl rfl rfl (by first | exact own_rds 1 rfl | exact own_rds 0 rfl | exact hrd | exact cells_rds 0 rfl | exact cells_rds 1 rfl | exact own_rds 2 rfl | exact own_rds 3 rfl | assumption) (by first | rfl | rfl | (simp; done)) (by first | rfl | rfl | (simp; done)) (by omega) (by omega) (by decide) fun A' c' => ?_))
         | refine o_move rfl (by decide) ?_
         | refine o_assign rfl (by decide) ?_
         | refine o_nil rfl (by decide) ?_
         | refine o_field0 tabOk rfl rfl rfl rfl rfl (by decide) ?_))
      | false =>
        rw [ho] at hel husf
        have hn := prs_no husf
        repeat' (first
         | ((refine z_isdst 21 ?_; refine o_loadr tabOk (Rds.cons _ hrd) rfl rfl rfl hel (by decide) ?_))
         | (refine s_is ?_; first
         | (refine s_isagain ?_; first
         | (exact c_again (A, c, p + 1) (by dsimp only; omega) (by dsimp only; omega) ⟨rfl, (by dsimp only; rw [show s * 32 + (p + 1) = s * 32 + p + 1 from rfl, hn]; rfl), rfl, rfl, trivial⟩ (fun w h => by dsimp only; rw [show s * 32 + (p + 1) = s * 32 + p + 1 from rfl, hn]; exact h)))
         | (refine s_isw ?_; first
         | refine c_seq ?_
         | refine c_block ?_
         | refine c_region ?_
         | refine c_skip ?_
         | (refine s_iscond ?_; first
         | (refine c_true rfl (by first | with_reducible rfl | with_reducible assumption | ((with_reducible refine decide_eq_true ?_); first | with_reducible rfl | with_reducible assumption | omega)) ?_)
         | (refine c_false rfl (by first | with_reducible rfl | with_reducible assumption | ((with_reducible refine decide_eq_false ?_); first | with_reducible assumption | omega)) ?_))))
         | (refine z_isnil ?_; first
         | refine z_list ?_)
         | (refine z_isop ?_; first
         | refine o_indexn tabOk rfl rfl rfl rfl (by omega) (by omega) (by decide) ?_
         | (refine z_isbin ?_; first
         | (refine z_isb .add ?_; first
         | refine o_add rfl rfl (by omega) (by omega) (by decide) ?_)
         | (refine z_isb .lss ?_; first
         | refine o_lt rfl rfl (by decide) ?_))
         | refine o_move rfl (by decide) ?_
         | refine o_assign rfl (by decide) ?_
         | refine o_nil rfl (by decide) ?_
         | refine o_field0 tabOk rfl rfl rfl rfl rfl (by decide) ?_))
    · obtain rfl : p = 32 := by omega
      repeat' (first
       | (refine s_is ?_; first
       | (refine s_isagain ?_; first
       | (exact c_again (A, c, s + 1) (by dsimp only; omega) (by dsimp only; omega) ⟨rfl, (by dsimp only; rw [show (s + 1) * 32 = s * 32 + 32 by omega]; rfl), rfl, trivial⟩ (fun w h => by dsimp only; rw [show (s + 1) * 32 = s * 32 + 32 by omega]; exact h)))
       | (refine s_isw ?_; first
       | refine c_seq ?_
       | refine c_region ?_
       | refine c_exit ?_
       | (refine s_iscond ?_; first
       | (refine c_false rfl (by first | with_reducible rfl | with_reducible assumption | ((with_reducible refine decide_eq_false ?_); first | with_reducible assumption | omega)) ?_))))
       | (refine z_isnil ?_; first
       | refine z_list ?_)
       | (refine z_isop ?_; first
       | (refine z_isbin ?_; first
       | (refine z_isb .add ?_; first
       | refine o_add rfl rfl (by omega) (by omega) (by decide) ?_)
       | (refine z_isb .lss ?_; first
       | refine o_lt rfl rfl (by decide) ?_))
       | refine o_move rfl (by decide) ?_
       | refine o_assign rfl (by decide) ?_))
  · obtain rfl : s = 64 := by omega
    repeat' (first
     | (refine s_is ?_; first
     | (refine s_isret ?_; first
     | exact f_r1 rfl (res_t rfl) (A, c) trivial rfl (fun w h => h))
     | (refine s_isw ?_; first
     | refine c_seq ?_
     | refine c_region ?_
     | refine c_ret ?_
     | refine c_exit ?_
     | (refine s_iscond ?_; first
     | (refine c_false rfl (by first | with_reducible rfl | with_reducible assumption | ((with_reducible refine decide_eq_false ?_); first | with_reducible assumption | omega)) ?_))))
     | (refine z_isnil ?_; first
     | refine z_list ?_)
     | (refine z_isop ?_; first
     | (refine z_isbin ?_; first
     | (refine z_isb .lss ?_; first
     | refine o_lt rfl rfl (by decide) ?_))
     | refine o_move rfl (by decide) ?_
     | refine o_assign rfl (by decide) ?_))
set_option maxHeartbeats 8000000 in
theorem ydrop_c (t : Nat) (M O : Mp) (hM : WM M) (sp fm : Int) (fr : List Chunk) : Does Try.prog 51 [.pointer (some ⟨t, 0, none⟩), .int .i64 sp, .int .i64 fm] (cells t 61 (xs M ++ os O) :: fr) (fun _ : Option Addr × Nat => True) (fun x => .slice x.1 (prs (dof M O sp fm) 2048).length x.2) (fun x => own x.1 x.2 45 2 (prs (dof M O sp fm) 2048).length (pcs (prs (dof M O sp fm) 2048)) :: cells t 61 (xs (rmM M (dmf M sp (-1) fm) 2048) ++ os (rmM O (dmf M sp (-1) fm) 2048)) :: fr) := by
  intro w hw
  refine f_enter Try.func51 rfl Try.ntmps51 rfl hw ?_
  repeat' (first
   | (refine s_is ?_; first
   | (refine s_isw ?_; first
   | (refine s_isloop ?_; first
   | ((refine c_loop (X := Option Addr × Nat × Nat) (fun y => y.2.2 ≤ 64) (fun y => [(0, .pointer (some ⟨t, 0, none⟩)), (1, .int .i64 sp), (2, .int .i64 fm), (7, .slice y.1 (prs (dof M O sp fm) (y.2.2 * 32)).length y.2.1), (8, .int .i64 y.2.2)]) (fun y => own y.1 y.2.1 45 2 (prs (dof M O sp fm) (y.2.2 * 32)).length (pcs (prs (dof M O sp fm) (y.2.2 * 32))) :: cells t 61 (xs (rmM M (dmf M sp (-1) fm) (y.2.2 * 32)) ++ os (rmM O (dmf M sp (-1) fm) (y.2.2 * 32))) :: fr) (fun y => 64 - y.2.2) (none, 0, 0) (Nat.zero_le _) ⟨rfl, rfl, rfl, rfl, rfl, trivial⟩ (fun w h => by dsimp only; rw [show rmM M (dmf M sp (-1) fm) (0 * 32) = M from rmM_zero _ _, show rmM O (dmf M sp (-1) fm) (0 * 32) = O from rmM_zero _ _]; unfold pcs; exact h.nil 45 2) (fun y hy => ?_); obtain ⟨A, c, s⟩ := y; dsimp only at hy ⊢; refine hold ?_)))
   | refine c_seq ?_
   | refine c_block ?_
   | refine c_region ?_))
   | (refine z_isnil ?_; first
   | refine z_list ?_)
   | (refine z_isop ?_; first
   | refine o_assign rfl (by decide) ?_))
  refine Hold.go ?_
  by_cases hs : s < 64
  · skip
    repeat' (first
     | (refine s_is ?_; first
     | (refine s_isw ?_; first
     | (refine s_isloop ?_; first
     | ((refine c_loop (X := Option Addr × Nat × Nat) (fun y => y.2.2 ≤ 32) (fun y => [(0, .pointer (some ⟨t, 0, none⟩)), (1, .int .i64 sp), (2, .int .i64 fm), (7, .slice y.1 (prs (dof M O sp fm) (s * 32 + y.2.2)).length y.2.1), (8, .int .i64 s), (9, .int .i64 y.2.2)]) (fun y => own y.1 y.2.1 45 2 (prs (dof M O sp fm) (s * 32 + y.2.2)).length (pcs (prs (dof M O sp fm) (s * 32 + y.2.2))) :: cells t 61 (xs (rmM M (dmf M sp (-1) fm) (s * 32 + y.2.2)) ++ os (rmM O (dmf M sp (-1) fm) (s * 32 + y.2.2))) :: fr) (fun y => 32 - y.2.2) (A, c, 0) (Nat.zero_le _) ⟨rfl, rfl, rfl, rfl, rfl, rfl, trivial⟩ (fun w h => h) (fun y hy => ?_); obtain ⟨A, c, p⟩ := y; dsimp only at hy ⊢; refine hold ?_)))
     | refine c_seq ?_
     | refine c_block ?_
     | refine c_region ?_
     | refine c_skip ?_
     | (refine s_iscond ?_; first
     | (refine c_true rfl (by first | with_reducible rfl | with_reducible assumption | ((with_reducible refine decide_eq_true ?_); first | with_reducible rfl | with_reducible assumption | omega)) ?_))))
     | (refine z_isnil ?_; first
     | refine z_list ?_)
     | (refine z_isop ?_; first
     | (refine z_isbin ?_; first
     | (refine z_isb .lss ?_; first
     | refine o_lt rfl rfl (by decide) ?_))
     | refine o_move rfl (by decide) ?_
     | refine o_assign rfl (by decide) ?_))
    refine Hold.go ?_
    have hle := prs_le (dof M O sp fm) (s * 32 + p)
    by_cases hp : p < 32
    · have hdo := dof_sp (M := M) (O := O) (sp := sp) (fm := fm) (s := s) hp
      have hdm := dmf_sp (M := M) (sp := sp) (pg := -1) (fm := fm) (s := s) hp
      have hpl := plc_sp (s := s) hp
      have hel := xr_el (rmM M (dmf M sp (-1) fm) (s * 32 + p)) (os (rmM O (dmf M sp (-1) fm) (s * 32 + p))) hs hp
      rw [bcv_rm] at hel
      unfold bcv at hel
      have hmn : mine M sp (-1) fm s p = if sp < 0 then decide (fM M s p = fm) else (decide ((s : Int) = sp) && (decide ((-1 : Int) < 0) || decide ((p : Int) = -1))) := by unfold mine; rfl
      have hub := yunbind_y t (rmM M (dmf M sp (-1) fm) (s * 32 + p)) (rmM O (dmf M sp (-1) fm) (s * 32 + p)) (hM.rm _ _) s p
      rw [onM_rm, onM_rm] at hub
      cases hon : onM M s p with
      | false =>
        rw [hon] at hel
        rw [hon, Bool.false_and] at hdm
        rw [hon, Bool.false_and, Bool.false_and] at hdo
        have hn := prs_no hdo
        have hr := rmM_no (M := M) hdm
        have hro := rmM_no (M := O) hdm
        repeat' (first
         | ((refine z_isdst 29 ?_; refine o_loadrw tabOk (cells_rds 1 rfl) rfl rfl rfl (es := [.bool _, .int .i64 (fM M s p), .bool (wM M s p)]) rfl (Nat.succ_pos _) hel (by decide) ?_))
         | ((refine z_isdst 10 ?_; refine o_alloca (e := 27) (vs := [.bool false, .int .i64 0, .bool false]) rfl (by kernel_rfl) (by decide) fun g10 => ?_))
         | (refine s_is ?_; first
         | (refine s_isagain ?_; first
         | (exact c_again (A, c, p + 1) (by dsimp only; omega) (by dsimp only; omega) ⟨rfl, rfl, rfl, (by dsimp only; rw [show s * 32 + (p + 1) = s * 32 + p + 1 from rfl, hn]; rfl), rfl, rfl, trivial⟩ (fun w h => by dsimp only; rw [show s * 32 + (p + 1) = s * 32 + p + 1 from rfl, hn, hr, hro]; exact ((h.sel 3 [1, 2, 0] (by decide)).mask [true, true, false]))))
         | (refine s_isw ?_; first
         | refine c_seq ?_
         | refine c_block ?_
         | refine c_region ?_
         | refine c_skip ?_
         | refine c_exit ?_
         | (refine s_iscond ?_; first
         | (refine c_true rfl (by first | with_reducible rfl | with_reducible assumption | ((with_reducible refine decide_eq_true ?_); first | with_reducible rfl | with_reducible assumption | omega)) ?_))))
         | (refine z_isg1 ?_; first
         | refine z_skipu (by decide) rfl rfl ?_)
         | (refine z_isg0 ?_; first
         | refine z_skipu (by decide) rfl rfl ?_
         | (refine z_skip0 (by decide) rfl rfl (by first | with_reducible rfl | with_reducible assumption | ((with_reducible refine decide_eq_true ?_); first | with_reducible rfl | with_reducible assumption | omega)) ?_)
         | (refine z_skip0 (by decide) rfl rfl (by first | (simp only [Bool.not_eq_true', decide_eq_false_iff_not]; omega) | (with_reducible assumption) | (rw [decide_eq_false] <;> (first | omega | with_reducible rfl)) | (rw [decide_eq_true] <;> (first | omega | with_reducible rfl)) | (simp; done) | (simp; omega)) ?_))
         | (refine z_isnil ?_; first
         | refine z_list ?_)
         | (refine z_isop ?_; first
         | refine o_indexm tabOk rfl rfl rfl rfl (by omega) (by omega) (by decide) ?_
         | refine o_indexn tabOk rfl rfl rfl rfl (by omega) (by omega) (by decide) ?_
         | (refine z_isbin ?_; first
         | (refine z_isb .add ?_; first
         | refine o_add rfl rfl (by omega) (by omega) (by decide) ?_)
         | (refine z_isb .lss ?_; first
         | refine o_lt rfl rfl (by decide) ?_))
         | (refine z_isload ?_; first
         | (refine z_ld1 tabOk rfl rfl ?_; first
         | refine o_loadm tabOk rfl rfl rfl (by repeat' (first | exact List.mem_cons_self | apply List.mem_cons_of_mem)) (by first | rfl | rfl) (by decide) ?_))
         | (refine z_isstore ?_; first
         | (refine z_stw rfl ?_; first
         | ((refine z_sti 0 rfl rfl ?_; refine o_storeb0 rfl tabOk rfl rfl rfl (by first | rfl | rfl) (by first | rfl | rfl) (by first | rfl | rfl) ?_))))
         | (refine z_ispick ?_; first
         | (refine o_pick1 rfl (by first | with_reducible rfl | with_reducible assumption | ((with_reducible refine decide_eq_true ?_); first | with_reducible rfl | with_reducible assumption | omega)) rfl (by decide) ?_)
         | (refine o_pick1 rfl (by first | (simp only [Bool.not_eq_true', decide_eq_false_iff_not]; omega) | (with_reducible assumption) | (rw [decide_eq_false] <;> (first | omega | with_reducible rfl)) | (rw [decide_eq_true] <;> (first | omega | with_reducible rfl)) | (simp; done) | (simp; omega)) rfl (by decide) ?_))
         | refine o_move rfl (by decide) ?_
         | refine o_assign rfl (by decide) ?_
         | refine o_nil rfl (by decide) ?_
         | refine o_not rfl (by decide) ?_
         | refine o_field0 tabOk rfl rfl rfl rfl rfl (by decide) ?_))
      | true =>
        rw [hon] at hel
        replace hub := hub hon
        by_cases h1 : sp < 0
        · have h1' : ¬ 0 ≤ sp := by omega
          rw [if_pos h1] at hmn
          by_cases h2 : fM M s p = fm
          · rw [decide_eq_true h2] at hmn
            rw [hon, hmn, Bool.true_and] at hdm hdo
            rw [Bool.true_and] at hdo
            have hr := rmM_yes (M := M) hp hdm
            have hro := rmM_yes (M := O) hp hdm
            rw [hr, hro] at hub
            cases hO : onM O s p with
            | true =>
              rw [hO] at hub hdo
              have hn := prs_yes hdo
              rw [hpl] at hn
              have hpc := pcs_add (prs (dof M O sp fm) (s * 32 + p)) s p
              repeat' (first
               | ((refine z_isdst 56 ?_; refine z_sel rfl 3 [2, 0, 1] (by decide) ?_; refine o_calla Try.func50 rfl rfl rfl (hub _) (by decide) fun _ _ => ?_; refine z_sel rfl 3 [2, 0, 1] (by decide) ?_))
               | ((refine z_isdst 63 ?_; refine o_build (v := .agg #[.int .i64 s, .int .i64 p]) rfl (fun _ => by kernel_rfl) (by decide) ?_))
               | ((refine z_isdst 29 ?_; refine o_loadrw tabOk (cells_rds 1 rfl) rfl rfl rfl (es := [.bool _, .int .i64 (fM M s p), .bool (wM M s p)]) rfl (Nat.succ_pos _) hel (by decide) ?_))
               | ((refine z_isdst 10 ?_; refine o_alloca (e := 27) (vs := [.bool false, .int .i64 0, .bool false]) rfl (by kernel_rfl) (by decide) fun g10 => ?_))
               | (refine s_is ?_; first
               | (refine s_isagain ?_; first
               | (exact c_again (A', c', p + 1) (by dsimp only; omega) (by dsimp only; omega) ⟨rfl, rfl, rfl, (by dsimp only; rw [show s * 32 + (p + 1) = s * 32 + p + 1 from rfl, hn, List.length_append]; rfl), rfl, rfl, trivial⟩ (fun w h => by dsimp only; rw [show s * 32 + (p + 1) = s * 32 + p + 1 from rfl, hn, hpc, List.length_append]; simp only [fronts, moveF, selF, sel1, nth, List.drop_succ_cons, List.drop_zero, List.eraseIdx_cons_zero, List.eraseIdx_cons_succ, maskL, List.cons_append, List.nil_append, List.append_eq, List.set_cons_zero, List.set_cons_succ] at h; exact ((h.sel 4 [0, 2, 1, 3] (by decide)).mask [true, true, false, false]))))
               | (refine s_isw ?_; first
               | refine c_seq ?_
               | refine c_block ?_
               | refine c_region ?_
               | refine c_skip ?_
               | (refine s_iscond ?_; first
               | (refine c_true rfl (by first | with_reducible rfl | with_reducible assumption | ((with_reducible refine decide_eq_true ?_); first | with_reducible rfl | with_reducible assumption | omega)) ?_)
               | (refine c_false rfl (by first | with_reducible rfl | with_reducible assumption | ((with_reducible refine decide_eq_false ?_); first | with_reducible assumption | omega)) ?_))))
               | (refine z_isg1 ?_; first
               | (refine z_want1 rfl rfl (by first | with_reducible rfl | with_reducible assumption | ((with_reducible refine decide_eq_true ?_); first | with_reducible rfl | with_reducible assumption | omega)) ?_)
               | (refine z_skip1 (by decide) rfl rfl (by first | with_reducible rfl | with_reducible assumption | ((with_reducible refine decide_eq_false ?_); first | with_reducible assumption | omega)) ?_))
               | (refine z_isg0 ?_; first
               | (refine z_want0 rfl rfl (by first | with_reducible rfl | with_reducible assumption | ((with_reducible refine decide_eq_false ?_); first | with_reducible assumption | omega)) ?_)
               | (refine z_want0 rfl rfl (by first | (simp only [Bool.not_eq_false', decide_eq_true_eq]; omega) | (with_reducible assumption) | (rw [decide_eq_false] <;> (first | omega | with_reducible rfl)) | (rw [decide_eq_true] <;> (first | omega | with_reducible rfl)) | (simp; done) | (simp; omega)) ?_))
               | (refine z_isnil ?_; first
               | refine z_list ?_)
               | (refine z_isop ?_; first
               | (refine o_makew (vs := [.int .i64 s, .int .i64 p]) rfl tabOk zeroOk rfl rfl rfl rfl rfl rfl rfl (by decide) fun gn => ?_)
               | refine o_indexm tabOk rfl rfl rfl rfl (by omega) (by omega) (by decide) ?_
               | refine o_indexn tabOk rfl rfl rfl rfl (by omega) (by omega) (by decide) ?_
               | (refine z_isbin ?_; first
               | (refine z_isb .add ?_; first
               | refine o_add rfl rfl (by omega) (by omega) (by decide) ?_)
               | (refine z_isb .neq ?_; first
               | refine o_ne rfl rfl (by decide) ?_)
               | (refine z_isb .lss ?_; first
               | refine o_lt rfl rfl (by decide) ?_)
               | (refine z_isb .geq ?_; first
               | refine o_ge rfl rfl (by decide) ?_))
               | (refine z_isload ?_; first
               | (refine z_ld1 tabOk rfl rfl ?_; first
               | refine o_loadm tabOk rfl rfl rfl (by repeat' (first | exact List.mem_cons_self | apply List.mem_cons_of_mem)) (by first | rfl | rfl) (by decide) ?_))
               | (refine z_isstore ?_; first
               | (refine z_stw rfl ?_; first
               | ((refine z_sti 0 rfl rfl ?_; refine o_storeb0 rfl tabOk rfl rfl rfl (by first | rfl | rfl) (by first | rfl | rfl) (by first | rfl | rfl) ?_))))
               | (refine z_ispick ?_; first
               | (refine o_pick1 rfl (by first | with_reducible rfl | with_reducible assumption | ((with_reducible refine decide_eq_true ?_); first | with_reducible rfl | with_reducible assumption | omega)) rfl (by decide) ?_)
               | (refine o_pick0 rfl (by first | with_reducible rfl | with_reducible assumption | ((with_reducible refine decide_eq_false ?_); first | with_reducible assumption | omega)) rfl (by decide) ?_)
               | (refine o_pick0 rfl (by first | (simp only [Bool.not_eq_false', decide_eq_true_eq]; omega) | (with_reducible assumption) | (rw [decide_eq_false] <;> (first | omega | with_reducible rfl)) | (rw [decide_eq_true] <;> (first | omega | with_reducible rfl)) | (simp; done) | (simp; omega)) rfl (by decide) ?_))
               | (refine z_isbi ?_; first
               | (refine z_front rfl 1 rfl ?_; refine o_append rfl tabOk zeroOk rfl rfl rfl rfl rfl rfl (by first | exact own_rds 1 rfl | exact own_rds 0 rfl | exact hrd | exact cells_rds 0 rfl | exact cells_rds 1 rfl | exact own_rds 2 rfl | exact own_rds 3 rfl | assumption) (by first | rfl | rfl | (simp; done)) (by first | rfl | rfl | (simp; done)) (by omega) (by omega) (by decide) fun A' c' => ?_))
               | refine o_move rfl (by decide) ?_
               | refine o_assign rfl (by decide) ?_
               | refine o_nil rfl (by decide) ?_
               | refine o_extract rfl rfl (by decide) ?_
               | refine o_not rfl (by decide) ?_
               | refine o_field0 tabOk rfl rfl rfl rfl rfl (by decide) ?_))
            | false =>
              rw [hO] at hub hdo
              have hn := prs_no hdo
              repeat' (first
               | ((refine z_isdst 56 ?_; refine z_sel rfl 3 [2, 0, 1] (by decide) ?_; refine o_calla Try.func50 rfl rfl rfl (hub _) (by decide) fun _ _ => ?_; refine z_sel rfl 3 [2, 0, 1] (by decide) ?_))
               | ((refine z_isdst 29 ?_; refine o_loadrw tabOk (cells_rds 1 rfl) rfl rfl rfl (es := [.bool _, .int .i64 (fM M s p), .bool (wM M s p)]) rfl (Nat.succ_pos _) hel (by decide) ?_))
               | ((refine z_isdst 10 ?_; refine o_alloca (e := 27) (vs := [.bool false, .int .i64 0, .bool false]) rfl (by kernel_rfl) (by decide) fun g10 => ?_))
               | (refine s_is ?_; first
               | (refine s_isagain ?_; first
               | (exact c_again (A, c, p + 1) (by dsimp only; omega) (by dsimp only; omega) ⟨rfl, rfl, rfl, (by dsimp only; rw [show s * 32 + (p + 1) = s * 32 + p + 1 from rfl, hn]; rfl), rfl, rfl, trivial⟩ (fun w h => by dsimp only; rw [show s * 32 + (p + 1) = s * 32 + p + 1 from rfl, hn]; simp only [fronts, moveF, selF, sel1, nth, List.drop_succ_cons, List.drop_zero, List.eraseIdx_cons_zero, List.eraseIdx_cons_succ, maskL, List.cons_append, List.nil_append, List.append_eq, List.set_cons_zero, List.set_cons_succ] at h; exact ((h.sel 3 [0, 1, 2] (by decide)).mask [true, true, false]))))
               | (refine s_isw ?_; first
               | refine c_seq ?_
               | refine c_block ?_
               | refine c_region ?_
               | refine c_skip ?_
               | (refine s_iscond ?_; first
               | (refine c_true rfl (by first | with_reducible rfl | with_reducible assumption | ((with_reducible refine decide_eq_true ?_); first | with_reducible rfl | with_reducible assumption | omega)) ?_)
               | (refine c_false rfl (by first | with_reducible rfl | with_reducible assumption | ((with_reducible refine decide_eq_false ?_); first | with_reducible assumption | omega)) ?_))))
               | (refine z_isg1 ?_; first
               | (refine z_want1 rfl rfl (by first | with_reducible rfl | with_reducible assumption | ((with_reducible refine decide_eq_true ?_); first | with_reducible rfl | with_reducible assumption | omega)) ?_)
               | (refine z_skip1 (by decide) rfl rfl (by first | with_reducible rfl | with_reducible assumption | ((with_reducible refine decide_eq_false ?_); first | with_reducible assumption | omega)) ?_))
               | (refine z_isg0 ?_; first
               | (refine z_want0 rfl rfl (by first | with_reducible rfl | with_reducible assumption | ((with_reducible refine decide_eq_false ?_); first | with_reducible assumption | omega)) ?_)
               | (refine z_want0 rfl rfl (by first | (simp only [Bool.not_eq_false', decide_eq_true_eq]; omega) | (with_reducible assumption) | (rw [decide_eq_false] <;> (first | omega | with_reducible rfl)) | (rw [decide_eq_true] <;> (first | omega | with_reducible rfl)) | (simp; done) | (simp; omega)) ?_))
               | (refine z_isnil ?_; first
               | refine z_list ?_)
               | (refine z_isop ?_; first
               | refine o_indexm tabOk rfl rfl rfl rfl (by omega) (by omega) (by decide) ?_
               | refine o_indexn tabOk rfl rfl rfl rfl (by omega) (by omega) (by decide) ?_
               | (refine z_isbin ?_; first
               | (refine z_isb .add ?_; first
               | refine o_add rfl rfl (by omega) (by omega) (by decide) ?_)
               | (refine z_isb .neq ?_; first
               | refine o_ne rfl rfl (by decide) ?_)
               | (refine z_isb .lss ?_; first
               | refine o_lt rfl rfl (by decide) ?_)
               | (refine z_isb .geq ?_; first
               | refine o_ge rfl rfl (by decide) ?_))
               | (refine z_isload ?_; first
               | (refine z_ld1 tabOk rfl rfl ?_; first
               | refine o_loadm tabOk rfl rfl rfl (by repeat' (first | exact List.mem_cons_self | apply List.mem_cons_of_mem)) (by first | rfl | rfl) (by decide) ?_))
               | (refine z_isstore ?_; first
               | (refine z_stw rfl ?_; first
               | ((refine z_sti 0 rfl rfl ?_; refine o_storeb0 rfl tabOk rfl rfl rfl (by first | rfl | rfl) (by first | rfl | rfl) (by first | rfl | rfl) ?_))))
               | (refine z_ispick ?_; first
               | (refine o_pick1 rfl (by first | with_reducible rfl | with_reducible assumption | ((with_reducible refine decide_eq_true ?_); first | with_reducible rfl | with_reducible assumption | omega)) rfl (by decide) ?_)
               | (refine o_pick0 rfl (by first | with_reducible rfl | with_reducible assumption | ((with_reducible refine decide_eq_false ?_); first | with_reducible assumption | omega)) rfl (by decide) ?_)
               | (refine o_pick0 rfl (by first | (simp only [Bool.not_eq_false', decide_eq_true_eq]; omega) | (with_reducible assumption) | (rw [decide_eq_false] <;> (first | omega | with_reducible rfl)) | (rw [decide_eq_true] <;> (first | omega | with_reducible rfl)) | (simp; done) | (simp; omega)) rfl (by decide) ?_))
               | refine o_move rfl (by decide) ?_
               | refine o_assign rfl (by decide) ?_
               | refine o_nil rfl (by decide) ?_
               | refine o_extract rfl rfl (by decide) ?_
               | refine o_not rfl (by decide) ?_
               | refine o_field0 tabOk rfl rfl rfl rfl rfl (by decide) ?_))
          · rw [decide_eq_false h2] at hmn
            rw [hon, hmn] at hdm hdo
            have hn := prs_no hdo
            have hr := rmM_no (M := M) hdm
            have hro := rmM_no (M := O) hdm
            repeat' (first
             | ((refine z_isdst 29 ?_; refine o_loadrw tabOk (cells_rds 1 rfl) rfl rfl rfl (es := [.bool _, .int .i64 (fM M s p), .bool (wM M s p)]) rfl (Nat.succ_pos _) hel (by decide) ?_))
             | ((refine z_isdst 10 ?_; refine o_alloca (e := 27) (vs := [.bool false, .int .i64 0, .bool false]) rfl (by kernel_rfl) (by decide) fun g10 => ?_))
             | (refine s_is ?_; first
             | (refine s_isagain ?_; first
             | (exact c_again (A, c, p + 1) (by dsimp only; omega) (by dsimp only; omega) ⟨rfl, rfl, rfl, (by dsimp only; rw [show s * 32 + (p + 1) = s * 32 + p + 1 from rfl, hn]; rfl), rfl, rfl, trivial⟩ (fun w h => by dsimp only; rw [show s * 32 + (p + 1) = s * 32 + p + 1 from rfl, hn, hr, hro]; exact ((h.sel 3 [1, 2, 0] (by decide)).mask [true, true, false]))))
             | (refine s_isw ?_; first
             | refine c_seq ?_
             | refine c_block ?_
             | refine c_region ?_
             | refine c_skip ?_
             | refine c_exit ?_
             | (refine s_iscond ?_; first
             | (refine c_true rfl (by first | with_reducible rfl | with_reducible assumption | ((with_reducible refine decide_eq_true ?_); first | with_reducible rfl | with_reducible assumption | omega)) ?_))))
             | (refine z_isg1 ?_; first
             | (refine z_want1 rfl rfl (by first | with_reducible rfl | with_reducible assumption | ((with_reducible refine decide_eq_true ?_); first | with_reducible rfl | with_reducible assumption | omega)) ?_)
             | (refine z_skip1 (by decide) rfl rfl (by first | with_reducible rfl | with_reducible assumption | ((with_reducible refine decide_eq_false ?_); first | with_reducible assumption | omega)) ?_))
             | (refine z_isg0 ?_; first
             | (refine z_want0 rfl rfl (by first | with_reducible rfl | with_reducible assumption | ((with_reducible refine decide_eq_false ?_); first | with_reducible assumption | omega)) ?_)
             | (refine z_want0 rfl rfl (by first | (simp only [Bool.not_eq_false', decide_eq_true_eq]; omega) | (with_reducible assumption) | (rw [decide_eq_false] <;> (first | omega | with_reducible rfl)) | (rw [decide_eq_true] <;> (first | omega | with_reducible rfl)) | (simp; done) | (simp; omega)) ?_))
             | (refine z_isnil ?_; first
             | refine z_list ?_)
             | (refine z_isop ?_; first
             | refine o_indexm tabOk rfl rfl rfl rfl (by omega) (by omega) (by decide) ?_
             | refine o_indexn tabOk rfl rfl rfl rfl (by omega) (by omega) (by decide) ?_
             | (refine z_isbin ?_; first
             | (refine z_isb .add ?_; first
             | refine o_add rfl rfl (by omega) (by omega) (by decide) ?_)
             | (refine z_isb .neq ?_; first
             | refine o_ne rfl rfl (by decide) ?_)
             | (refine z_isb .lss ?_; first
             | refine o_lt rfl rfl (by decide) ?_)
             | (refine z_isb .geq ?_; first
             | refine o_ge rfl rfl (by decide) ?_))
             | (refine z_isload ?_; first
             | (refine z_ld1 tabOk rfl rfl ?_; first
             | refine o_loadm tabOk rfl rfl rfl (by repeat' (first | exact List.mem_cons_self | apply List.mem_cons_of_mem)) (by first | rfl | rfl) (by decide) ?_))
             | (refine z_isstore ?_; first
             | (refine z_stw rfl ?_; first
             | ((refine z_sti 0 rfl rfl ?_; refine o_storeb0 rfl tabOk rfl rfl rfl (by first | rfl | rfl) (by first | rfl | rfl) (by first | rfl | rfl) ?_))))
             | (refine z_ispick ?_; first
             | (refine o_pick1 rfl (by first | with_reducible rfl | with_reducible assumption | ((with_reducible refine decide_eq_true ?_); first | with_reducible rfl | with_reducible assumption | omega)) rfl (by decide) ?_)
             | (refine o_pick0 rfl (by first | with_reducible rfl | with_reducible assumption | ((with_reducible refine decide_eq_false ?_); first | with_reducible assumption | omega)) rfl (by decide) ?_)
             | (refine o_pick0 rfl (by first | (simp only [Bool.not_eq_false', decide_eq_true_eq]; omega) | (with_reducible assumption) | (rw [decide_eq_false] <;> (first | omega | with_reducible rfl)) | (rw [decide_eq_true] <;> (first | omega | with_reducible rfl)) | (simp; done) | (simp; omega)) rfl (by decide) ?_))
             | refine o_move rfl (by decide) ?_
             | refine o_assign rfl (by decide) ?_
             | refine o_nil rfl (by decide) ?_
             | refine o_not rfl (by decide) ?_
             | refine o_field0 tabOk rfl rfl rfl rfl rfl (by decide) ?_))
        · have h1' : 0 ≤ sp := by omega
          rw [if_neg h1] at hmn
          by_cases h3 : (s : Int) = sp
          · rw [decide_eq_true h3] at hmn
            rw [show (true && (decide ((-1 : Int) < 0) || decide ((p : Int) = -1))) = true from rfl] at hmn
            rw [hon, hmn, Bool.true_and] at hdm hdo
            rw [Bool.true_and] at hdo
            have hr := rmM_yes (M := M) hp hdm
            have hro := rmM_yes (M := O) hp hdm
            rw [hr, hro] at hub
            cases hO : onM O s p with
            | true =>
              rw [hO] at hub hdo
              have hn := prs_yes hdo
              rw [hpl] at hn
              have hpc := pcs_add (prs (dof M O sp fm) (s * 32 + p)) s p
              repeat' (first
               | ((refine z_isdst 56 ?_; refine z_sel rfl 3 [2, 0, 1] (by decide) ?_; refine o_calla Try.func50 rfl rfl rfl (hub _) (by decide) fun _ _ => ?_; refine z_sel rfl 3 [2, 0, 1] (by decide) ?_))
               | ((refine z_isdst 63 ?_; refine o_build (v := .agg #[.int .i64 s, .int .i64 p]) rfl (fun _ => by kernel_rfl) (by decide) ?_))
               | ((refine z_isdst 29 ?_; refine o_loadrw tabOk (cells_rds 1 rfl) rfl rfl rfl (es := [.bool _, .int .i64 (fM M s p), .bool (wM M s p)]) rfl (Nat.succ_pos _) hel (by decide) ?_))
               | ((refine z_isdst 10 ?_; refine o_alloca (e := 27) (vs := [.bool false, .int .i64 0, .bool false]) rfl (by kernel_rfl) (by decide) fun g10 => ?_))
               | (refine s_is ?_; first
               | (refine s_isagain ?_; first
               | (exact c_again (A', c', p + 1) (by dsimp only; omega) (by dsimp only; omega) ⟨rfl, rfl, rfl, (by dsimp only; rw [show s * 32 + (p + 1) = s * 32 + p + 1 from rfl, hn, List.length_append]; rfl), rfl, rfl, trivial⟩ (fun w h => by dsimp only; rw [show s * 32 + (p + 1) = s * 32 + p + 1 from rfl, hn, hpc, List.length_append]; simp only [fronts, moveF, selF, sel1, nth, List.drop_succ_cons, List.drop_zero, List.eraseIdx_cons_zero, List.eraseIdx_cons_succ, maskL, List.cons_append, List.nil_append, List.append_eq, List.set_cons_zero, List.set_cons_succ] at h; exact ((h.sel 4 [0, 2, 1, 3] (by decide)).mask [true, true, false, false]))))
               | (refine s_isw ?_; first
               | refine c_seq ?_
               | refine c_block ?_
               | refine c_region ?_
               | refine c_skip ?_
               | (refine s_iscond ?_; first
               | (refine c_true rfl (by first | with_reducible rfl | with_reducible assumption | ((with_reducible refine decide_eq_true ?_); first | with_reducible rfl | with_reducible assumption | omega)) ?_)
               | (refine c_false rfl (by first | with_reducible rfl | with_reducible assumption | ((with_reducible refine decide_eq_false ?_); first | with_reducible assumption | omega)) ?_))))
               | (refine z_isg1 ?_; first
               | (refine z_want1 rfl rfl (by first | with_reducible rfl | with_reducible assumption | ((with_reducible refine decide_eq_true ?_); first | with_reducible rfl | with_reducible assumption | omega)) ?_)
               | (refine z_skip1 (by decide) rfl rfl (by first | with_reducible rfl | with_reducible assumption | ((with_reducible refine decide_eq_false ?_); first | with_reducible assumption | omega)) ?_))
               | (refine z_isg0 ?_; first
               | (refine z_want0 rfl rfl (by first | with_reducible rfl | with_reducible assumption | ((with_reducible refine decide_eq_false ?_); first | with_reducible assumption | omega)) ?_)
               | (refine z_want0 rfl rfl (by first | (simp only [Bool.not_eq_false', decide_eq_true_eq]; omega) | (with_reducible assumption) | (rw [decide_eq_false] <;> (first | omega | with_reducible rfl)) | (rw [decide_eq_true] <;> (first | omega | with_reducible rfl)) | (simp; done) | (simp; omega)) ?_))
               | (refine z_isnil ?_; first
               | refine z_list ?_)
               | (refine z_isop ?_; first
               | (refine o_makew (vs := [.int .i64 s, .int .i64 p]) rfl tabOk zeroOk rfl rfl rfl rfl rfl rfl rfl (by decide) fun gn => ?_)
               | refine o_indexm tabOk rfl rfl rfl rfl (by omega) (by omega) (by decide) ?_
               | refine o_indexn tabOk rfl rfl rfl rfl (by omega) (by omega) (by decide) ?_
               | (refine z_isbin ?_; first
               | (refine z_isb .add ?_; first
               | refine o_add rfl rfl (by omega) (by omega) (by decide) ?_)
               | (refine z_isb .neq ?_; first
               | refine o_ne rfl rfl (by decide) ?_)
               | (refine z_isb .lss ?_; first
               | refine o_lt rfl rfl (by decide) ?_)
               | (refine z_isb .geq ?_; first
               | refine o_ge rfl rfl (by decide) ?_))
               | (refine z_isload ?_; first
               | (refine z_ld1 tabOk rfl rfl ?_; first
               | refine o_loadm tabOk rfl rfl rfl (by repeat' (first | exact List.mem_cons_self | apply List.mem_cons_of_mem)) (by first | rfl | rfl) (by decide) ?_))
               | (refine z_isstore ?_; first
               | (refine z_stw rfl ?_; first
               | ((refine z_sti 0 rfl rfl ?_; refine o_storeb0 rfl tabOk rfl rfl rfl (by first | rfl | rfl) (by first | rfl | rfl) (by first | rfl | rfl) ?_))))
               | (refine z_ispick ?_; first
               | (refine o_pick1 rfl (by first | with_reducible rfl | with_reducible assumption | ((with_reducible refine decide_eq_true ?_); first | with_reducible rfl | with_reducible assumption | omega)) rfl (by decide) ?_)
               | (refine o_pick0 rfl (by first | with_reducible rfl | with_reducible assumption | ((with_reducible refine decide_eq_false ?_); first | with_reducible assumption | omega)) rfl (by decide) ?_)
               | (refine o_pick0 rfl (by first | (simp only [Bool.not_eq_false', decide_eq_true_eq]; omega) | (with_reducible assumption) | (rw [decide_eq_false] <;> (first | omega | with_reducible rfl)) | (rw [decide_eq_true] <;> (first | omega | with_reducible rfl)) | (simp; done) | (simp; omega)) rfl (by decide) ?_))
               | (refine z_isbi ?_; first
               | (refine z_front rfl 1 rfl ?_; refine o_append rfl tabOk zeroOk rfl rfl rfl rfl rfl rfl (by first | exact own_rds 1 rfl | exact own_rds 0 rfl | exact hrd | exact cells_rds 0 rfl | exact cells_rds 1 rfl | exact own_rds 2 rfl | exact own_rds 3 rfl | assumption) (by first | rfl | rfl | (simp; done)) (by first | rfl | rfl | (simp; done)) (by omega) (by omega) (by decide) fun A' c' => ?_))
               | refine o_move rfl (by decide) ?_
               | refine o_assign rfl (by decide) ?_
               | refine o_nil rfl (by decide) ?_
               | refine o_extract rfl rfl (by decide) ?_
               | refine o_not rfl (by decide) ?_
               | refine o_field0 tabOk rfl rfl rfl rfl rfl (by decide) ?_))
            | false =>
              rw [hO] at hub hdo
              have hn := prs_no hdo
              repeat' (first
               | ((refine z_isdst 56 ?_; refine z_sel rfl 3 [2, 0, 1] (by decide) ?_; refine o_calla Try.func50 rfl rfl rfl (hub _) (by decide) fun _ _ => ?_; refine z_sel rfl 3 [2, 0, 1] (by decide) ?_))
               | ((refine z_isdst 29 ?_; refine o_loadrw tabOk (cells_rds 1 rfl) rfl rfl rfl (es := [.bool _, .int .i64 (fM M s p), .bool (wM M s p)]) rfl (Nat.succ_pos _) hel (by decide) ?_))
               | ((refine z_isdst 10 ?_; refine o_alloca (e := 27) (vs := [.bool false, .int .i64 0, .bool false]) rfl (by kernel_rfl) (by decide) fun g10 => ?_))
               | (refine s_is ?_; first
               | (refine s_isagain ?_; first
               | (exact c_again (A, c, p + 1) (by dsimp only; omega) (by dsimp only; omega) ⟨rfl, rfl, rfl, (by dsimp only; rw [show s * 32 + (p + 1) = s * 32 + p + 1 from rfl, hn]; rfl), rfl, rfl, trivial⟩ (fun w h => by dsimp only; rw [show s * 32 + (p + 1) = s * 32 + p + 1 from rfl, hn]; simp only [fronts, moveF, selF, sel1, nth, List.drop_succ_cons, List.drop_zero, List.eraseIdx_cons_zero, List.eraseIdx_cons_succ, maskL, List.cons_append, List.nil_append, List.append_eq, List.set_cons_zero, List.set_cons_succ] at h; exact ((h.sel 3 [0, 1, 2] (by decide)).mask [true, true, false]))))
               | (refine s_isw ?_; first
               | refine c_seq ?_
               | refine c_block ?_
               | refine c_region ?_
               | refine c_skip ?_
               | (refine s_iscond ?_; first
               | (refine c_true rfl (by first | with_reducible rfl | with_reducible assumption | ((with_reducible refine decide_eq_true ?_); first | with_reducible rfl | with_reducible assumption | omega)) ?_)
               | (refine c_false rfl (by first | with_reducible rfl | with_reducible assumption | ((with_reducible refine decide_eq_false ?_); first | with_reducible assumption | omega)) ?_))))
               | (refine z_isg1 ?_; first
               | (refine z_want1 rfl rfl (by first | with_reducible rfl | with_reducible assumption | ((with_reducible refine decide_eq_true ?_); first | with_reducible rfl | with_reducible assumption | omega)) ?_)
               | (refine z_skip1 (by decide) rfl rfl (by first | with_reducible rfl | with_reducible assumption | ((with_reducible refine decide_eq_false ?_); first | with_reducible assumption | omega)) ?_))
               | (refine z_isg0 ?_; first
               | (refine z_want0 rfl rfl (by first | with_reducible rfl | with_reducible assumption | ((with_reducible refine decide_eq_false ?_); first | with_reducible assumption | omega)) ?_)
               | (refine z_want0 rfl rfl (by first | (simp only [Bool.not_eq_false', decide_eq_true_eq]; omega) | (with_reducible assumption) | (rw [decide_eq_false] <;> (first | omega | with_reducible rfl)) | (rw [decide_eq_true] <;> (first | omega | with_reducible rfl)) | (simp; done) | (simp; omega)) ?_))
               | (refine z_isnil ?_; first
               | refine z_list ?_)
               | (refine z_isop ?_; first
               | refine o_indexm tabOk rfl rfl rfl rfl (by omega) (by omega) (by decide) ?_
               | refine o_indexn tabOk rfl rfl rfl rfl (by omega) (by omega) (by decide) ?_
               | (refine z_isbin ?_; first
               | (refine z_isb .add ?_; first
               | refine o_add rfl rfl (by omega) (by omega) (by decide) ?_)
               | (refine z_isb .neq ?_; first
               | refine o_ne rfl rfl (by decide) ?_)
               | (refine z_isb .lss ?_; first
               | refine o_lt rfl rfl (by decide) ?_)
               | (refine z_isb .geq ?_; first
               | refine o_ge rfl rfl (by decide) ?_))
               | (refine z_isload ?_; first
               | (refine z_ld1 tabOk rfl rfl ?_; first
               | refine o_loadm tabOk rfl rfl rfl (by repeat' (first | exact List.mem_cons_self | apply List.mem_cons_of_mem)) (by first | rfl | rfl) (by decide) ?_))
               | (refine z_isstore ?_; first
               | (refine z_stw rfl ?_; first
               | ((refine z_sti 0 rfl rfl ?_; refine o_storeb0 rfl tabOk rfl rfl rfl (by first | rfl | rfl) (by first | rfl | rfl) (by first | rfl | rfl) ?_))))
               | (refine z_ispick ?_; first
               | (refine o_pick1 rfl (by first | with_reducible rfl | with_reducible assumption | ((with_reducible refine decide_eq_true ?_); first | with_reducible rfl | with_reducible assumption | omega)) rfl (by decide) ?_)
               | (refine o_pick0 rfl (by first | with_reducible rfl | with_reducible assumption | ((with_reducible refine decide_eq_false ?_); first | with_reducible assumption | omega)) rfl (by decide) ?_)
               | (refine o_pick0 rfl (by first | (simp only [Bool.not_eq_false', decide_eq_true_eq]; omega) | (with_reducible assumption) | (rw [decide_eq_false] <;> (first | omega | with_reducible rfl)) | (rw [decide_eq_true] <;> (first | omega | with_reducible rfl)) | (simp; done) | (simp; omega)) rfl (by decide) ?_))
               | refine o_move rfl (by decide) ?_
               | refine o_assign rfl (by decide) ?_
               | refine o_nil rfl (by decide) ?_
               | refine o_extract rfl rfl (by decide) ?_
               | refine o_not rfl (by decide) ?_
               | refine o_field0 tabOk rfl rfl rfl rfl rfl (by decide) ?_))
          · rw [decide_eq_false h3, Bool.false_and] at hmn
            rw [hon, hmn] at hdm hdo
            have hn := prs_no hdo
            have hr := rmM_no (M := M) hdm
            have hro := rmM_no (M := O) hdm
            repeat' (first
             | ((refine z_isdst 29 ?_; refine o_loadrw tabOk (cells_rds 1 rfl) rfl rfl rfl (es := [.bool _, .int .i64 (fM M s p), .bool (wM M s p)]) rfl (Nat.succ_pos _) hel (by decide) ?_))
             | ((refine z_isdst 10 ?_; refine o_alloca (e := 27) (vs := [.bool false, .int .i64 0, .bool false]) rfl (by kernel_rfl) (by decide) fun g10 => ?_))
             | (refine s_is ?_; first
             | (refine s_isagain ?_; first
             | (exact c_again (A, c, p + 1) (by dsimp only; omega) (by dsimp only; omega) ⟨rfl, rfl, rfl, (by dsimp only; rw [show s * 32 + (p + 1) = s * 32 + p + 1 from rfl, hn]; rfl), rfl, rfl, trivial⟩ (fun w h => by dsimp only; rw [show s * 32 + (p + 1) = s * 32 + p + 1 from rfl, hn, hr, hro]; exact ((h.sel 3 [1, 2, 0] (by decide)).mask [true, true, false]))))
             | (refine s_isw ?_; first
             | refine c_seq ?_
             | refine c_block ?_
             | refine c_region ?_
             | refine c_skip ?_
             | refine c_exit ?_
             | (refine s_iscond ?_; first
             | (refine c_true rfl (by first | with_reducible rfl | with_reducible assumption | ((with_reducible refine decide_eq_true ?_); first | with_reducible rfl | with_reducible assumption | omega)) ?_))))
             | (refine z_isg1 ?_; first
             | refine z_skipu (by decide) rfl rfl ?_
             | (refine z_want1 rfl rfl (by first | with_reducible rfl | with_reducible assumption | ((with_reducible refine decide_eq_true ?_); first | with_reducible rfl | with_reducible assumption | omega)) ?_))
             | (refine z_isg0 ?_; first
             | refine z_skipu (by decide) rfl rfl ?_
             | (refine z_skip0 (by decide) rfl rfl (by first | with_reducible rfl | with_reducible assumption | ((with_reducible refine decide_eq_true ?_); first | with_reducible rfl | with_reducible assumption | omega)) ?_)
             | (refine z_want0 rfl rfl (by first | (simp only [Bool.not_eq_false', decide_eq_true_eq]; omega) | (with_reducible assumption) | (rw [decide_eq_false] <;> (first | omega | with_reducible rfl)) | (rw [decide_eq_true] <;> (first | omega | with_reducible rfl)) | (simp; done) | (simp; omega)) ?_))
             | (refine z_isnil ?_; first
             | refine z_list ?_)
             | (refine z_isop ?_; first
             | refine o_indexm tabOk rfl rfl rfl rfl (by omega) (by omega) (by decide) ?_
             | refine o_indexn tabOk rfl rfl rfl rfl (by omega) (by omega) (by decide) ?_
             | (refine z_isbin ?_; first
             | (refine z_isb .add ?_; first
             | refine o_add rfl rfl (by omega) (by omega) (by decide) ?_)
             | (refine z_isb .neq ?_; first
             | refine o_ne rfl rfl (by decide) ?_)
             | (refine z_isb .lss ?_; first
             | refine o_lt rfl rfl (by decide) ?_)
             | (refine z_isb .geq ?_; first
             | refine o_ge rfl rfl (by decide) ?_))
             | (refine z_isload ?_; first
             | (refine z_ld1 tabOk rfl rfl ?_; first
             | refine o_loadm tabOk rfl rfl rfl (by repeat' (first | exact List.mem_cons_self | apply List.mem_cons_of_mem)) (by first | rfl | rfl) (by decide) ?_))
             | (refine z_isstore ?_; first
             | (refine z_stw rfl ?_; first
             | ((refine z_sti 0 rfl rfl ?_; refine o_storeb0 rfl tabOk rfl rfl rfl (by first | rfl | rfl) (by first | rfl | rfl) (by first | rfl | rfl) ?_))))
             | (refine z_ispick ?_; first
             | (refine o_pick1 rfl (by first | with_reducible rfl | with_reducible assumption | ((with_reducible refine decide_eq_true ?_); first | with_reducible rfl | with_reducible assumption | omega)) rfl (by decide) ?_)
             | (refine o_pick0 rfl (by first | (simp only [Bool.not_eq_false', decide_eq_true_eq]; omega) | (with_reducible assumption) | (rw [decide_eq_false] <;> (first | omega | with_reducible rfl)) | (rw [decide_eq_true] <;> (first | omega | with_reducible rfl)) | (simp; done) | (simp; omega)) rfl (by decide) ?_))
             | refine o_move rfl (by decide) ?_
             | refine o_assign rfl (by decide) ?_
             | refine o_nil rfl (by decide) ?_
             | refine o_not rfl (by decide) ?_
             | refine o_field0 tabOk rfl rfl rfl rfl rfl (by decide) ?_))
    · obtain rfl : p = 32 := by omega
      repeat' (first
       | (refine s_is ?_; first
       | (refine s_isagain ?_; first
       | (exact c_again (A, c, s + 1) (by dsimp only; omega) (by dsimp only; omega) ⟨rfl, rfl, rfl, (by dsimp only; rw [show (s + 1) * 32 = s * 32 + 32 by omega]; rfl), rfl, trivial⟩ (fun w h => by dsimp only; rw [show (s + 1) * 32 = s * 32 + 32 by omega]; exact h)))
       | (refine s_isw ?_; first
       | refine c_seq ?_
       | refine c_region ?_
       | refine c_exit ?_
       | (refine s_iscond ?_; first
       | (refine c_false rfl (by first | with_reducible rfl | with_reducible assumption | ((with_reducible refine decide_eq_false ?_); first | with_reducible assumption | omega)) ?_))))
       | (refine z_isnil ?_; first
       | refine z_list ?_)
       | (refine z_isop ?_; first
       | (refine z_isbin ?_; first
       | (refine z_isb .add ?_; first
       | refine o_add rfl rfl (by omega) (by omega) (by decide) ?_)
       | (refine z_isb .lss ?_; first
       | refine o_lt rfl rfl (by decide) ?_))
       | refine o_move rfl (by decide) ?_
       | refine o_assign rfl (by decide) ?_))
  · obtain rfl : s = 64 := by omega
    repeat' (first
     | (refine s_is ?_; first
     | (refine s_isret ?_; first
     | exact f_r1 rfl (res_t rfl) (A, c) trivial rfl (fun w h => h))
     | (refine s_isw ?_; first
     | refine c_seq ?_
     | refine c_region ?_
     | refine c_ret ?_
     | refine c_exit ?_
     | (refine s_iscond ?_; first
     | (refine c_false rfl (by first | with_reducible rfl | with_reducible assumption | ((with_reducible refine decide_eq_false ?_); first | with_reducible assumption | omega)) ?_))))
     | (refine z_isnil ?_; first
     | refine z_list ?_)
     | (refine z_isop ?_; first
     | (refine z_isbin ?_; first
     | (refine z_isb .lss ?_; first
     | refine o_lt rfl rfl (by decide) ?_))
     | refine o_move rfl (by decide) ?_
     | refine o_assign rfl (by decide) ?_))
theorem places_c (L : List (Int × Int)) (A B : Option Addr) (c e : Nat) (fr : List Chunk) (hrd : Rds fr A (pcs L)) (hrd2 : Rds fr B (pcs L)) (hx : L.length ≤ 1000000) : Does Try.prog 32 [.slice A L.length c, .slice B L.length e] fr (fun _ : Unit => True) (fun _ => .bool true) (fun _ => fr) := by
  intro w hw
  have hl2 : 0 < L.length → 0 < (pcs L).length := fun h => by unfold pcs; rw [flat_len prc 2 prc_len]; omega
  have hneA : 0 < L.length → A ≠ none := fun h => hrd.ne hw (hl2 h)
  have hneB : 0 < L.length → B ≠ none := fun h => hrd2.ne hw (hl2 h)
  refine f_enter Try.func32 rfl Try.ntmps32 rfl hw ?_
  repeat' (first
   | (refine s_is ?_; first
   | (refine s_isw ?_; first
   | (refine s_isloop ?_; first
   | ((refine c_loop (X := Nat) (fun k => k ≤ L.length) (fun k => [(0, .slice A L.length c), (1, .slice B L.length e), (5, .int .i64 k)]) (fun _ => fr) (fun k => L.length - k) 0 (Nat.zero_le _) ⟨rfl, rfl, rfl, trivial⟩ (fun w h => h) (fun k hk => ?_); refine hold ?_)))
   | refine c_seq ?_
   | refine c_block ?_
   | refine c_region ?_
   | refine c_skip ?_
   | (refine s_iscond ?_; first
   | (refine c_false rfl (by first | with_reducible rfl | with_reducible assumption | ((with_reducible refine decide_eq_false ?_); first | with_reducible assumption | omega)) ?_))))
   | (refine z_isnil ?_; first
   | refine z_list ?_)
   | (refine z_isop ?_; first
   | (refine z_isbin ?_; first
   | (refine z_isb .neq ?_; first
   | refine o_ne rfl rfl (by decide) ?_))
   | (refine z_isbi ?_; first
   | refine o_len tabOk rfl rfl (by decide) ?_)
   | refine o_move rfl (by decide) ?_
   | refine o_assign rfl (by decide) ?_))
  refine Hold.go ?_
  by_cases hl : k < L.length
  · have hel := pcs_el L hl
    generalize L[k] = x at *
    obtain ⟨s, p⟩ := x
    repeat' (first
     | ((refine z_isdst 19 ?_; refine o_indexsn tabOk (hneA (by omega)) rfl rfl rfl rfl (by omega) (by omega) (by decide) ?_))
     | ((refine z_isdst 24 ?_; refine o_indexsn tabOk (hneB (by omega)) rfl rfl rfl rfl (by omega) (by omega) (by decide) ?_))
     | ((refine z_isdst 31 ?_; refine o_indexsn tabOk (hneA (by omega)) rfl rfl rfl rfl (by omega) (by omega) (by decide) ?_))
     | ((refine z_isdst 36 ?_; refine o_indexsn tabOk (hneB (by omega)) rfl rfl rfl rfl (by omega) (by omega) (by decide) ?_))
     | ((refine z_isdst 20 ?_; refine o_fields (hneA (by omega)) tabOk rfl rfl rfl rfl rfl (by decide) ?_))
     | ((refine z_isdst 32 ?_; refine o_fields (hneA (by omega)) tabOk rfl rfl rfl rfl rfl (by decide) ?_))
     | ((refine z_isdst 25 ?_; refine o_indexas (hneB (by omega)) tabOk rfl rfl rfl rfl (by omega) (by omega) (by decide) ?_))
     | ((refine z_isdst 37 ?_; refine o_indexas (hneB (by omega)) tabOk rfl rfl rfl rfl (by omega) (by omega) (by decide) ?_))
     | ((refine z_isdst 21 ?_; refine o_loads tabOk hrd rfl rfl rfl (hel 0 _ rfl) (by decide) ?_))
     | ((refine z_isdst 26 ?_; refine o_loads tabOk hrd2 rfl rfl rfl (hel 0 _ rfl) (by decide) ?_))
     | ((refine z_isdst 33 ?_; refine o_loads tabOk hrd rfl rfl rfl (hel 1 _ rfl) (by decide) ?_))
     | ((refine z_isdst 38 ?_; refine o_loads tabOk hrd2 rfl rfl rfl (hel 1 _ rfl) (by decide) ?_))
     | (refine s_is ?_; first
     | (refine s_isagain ?_; first
     | exact c_again (k + 1) (by omega) (by omega) ⟨rfl, rfl, rfl, trivial⟩ (fun w h => h))
     | (refine s_isw ?_; first
     | refine c_seq ?_
     | refine c_block ?_
     | refine c_region ?_
     | refine c_mixed mixed (by kernel_rfl) ?_
     | refine c_skip ?_
     | (refine s_iscond ?_; first
     | (refine c_true rfl (by first | with_reducible rfl | with_reducible assumption | ((with_reducible refine decide_eq_true ?_); first | with_reducible rfl | with_reducible assumption | omega)) ?_)
     | (refine c_false rfl (by first | with_reducible rfl | with_reducible assumption | ((with_reducible refine decide_eq_false ?_); first | with_reducible assumption | omega)) ?_))))
     | (refine z_isg0 ?_; first
     | (refine z_want0 rfl rfl (by first | with_reducible rfl | with_reducible assumption | ((with_reducible refine decide_eq_false ?_); first | with_reducible assumption | omega)) ?_))
     | (refine z_isnil ?_; first
     | refine z_list ?_
     | refine z_mixed ?_)
     | (refine z_isop ?_; first
     | (refine z_isbin ?_; first
     | (refine z_isb .add ?_; first
     | refine o_add rfl rfl (by omega) (by omega) (by decide) ?_)
     | (refine z_isb .neq ?_; first
     | refine o_ne rfl rfl (by decide) ?_)
     | (refine z_isb .lss ?_; first
     | refine o_lt rfl rfl (by decide) ?_))
     | (refine z_ispick ?_; first
     | (refine o_pick0 rfl (by first | with_reducible rfl | with_reducible assumption | ((with_reducible refine decide_eq_false ?_); first | with_reducible assumption | omega)) rfl (by decide) ?_))
     | (refine z_isbi ?_; first
     | refine o_len tabOk rfl rfl (by decide) ?_)
     | refine o_move rfl (by decide) ?_
     | refine o_assign rfl (by decide) ?_))
  · obtain rfl : k = L.length := by omega
    repeat' (first
     | (refine s_is ?_; first
     | (refine s_isret ?_; first
     | exact f_r1 rfl (res_t rfl) () trivial rfl (fun w h => h))
     | (refine s_isw ?_; first
     | refine c_seq ?_
     | refine c_region ?_
     | refine c_ret ?_
     | refine c_exit ?_
     | (refine s_iscond ?_; first
     | (refine c_false rfl (by first | with_reducible rfl | with_reducible assumption | ((with_reducible refine decide_eq_false ?_); first | with_reducible assumption | omega)) ?_))))
     | (refine z_isnil ?_; first
     | refine z_list ?_)
     | (refine z_isop ?_; first
     | (refine z_isbin ?_; first
     | (refine z_isb .lss ?_; first
     | refine o_lt rfl rfl (by decide) ?_))
     | (refine z_isbi ?_; first
     | refine o_len tabOk rfl rfl (by decide) ?_)
     | refine o_move rfl (by decide) ?_
     | refine o_assign rfl (by decide) ?_))
end Go.Proofs.Ytnckabgaichkkaa
