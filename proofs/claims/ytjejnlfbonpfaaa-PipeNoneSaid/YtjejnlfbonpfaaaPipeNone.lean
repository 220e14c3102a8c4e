/-
A nil pipe: the law, walked.
-/
import Derived.Test.YtjejnlfbonpfaaaPipe4
namespace Go.Proofs.Ytjejnlfbonpfaaa
set_option linter.unusedVariables false
set_option linter.unusedSimpArgs false
open Eng
attribute [local irreducible] Eng.Z Eng.S Eng.arr pipeCs Eng.some_ Eng.own Eng.cells Eng.old
set_option maxHeartbeats 4000000 in
theorem pipeNone (W : World) (kd n : Int) (A : Option Addr) (m c : Nat) : Does Try.prog 11 [.agg #[.int .i64 kd, .int .i64 n, .slice A m c]] [old W] (fun _ : Unit => True) (fun _ => .bool true) (fun _ => [old W]) := by
  intro w hw
  refine f_enter Try.func11 rfl Try.ntmps11 rfl hw ?_
  repeat' (first
    | refine o_boxa (vs := [.int .i64 kd, .int .i64 n, .slice A m c]) rfl rfl (by decide) fun g => ?_
    | exact f_ret1 rfl rfl () trivial rfl (fun w h => h.mask [false, true])
    | refine o_call Try.func41 rfl rfl rfl pcr_nil (List.Perm.refl _) (by decide) fun _ _ => ?_
    | refine o_call Try.func42 rfl rfl rfl pcw_nil (List.Perm.refl _) (by decide) fun _ _ => ?_
    | refine o_call Try.func29 rfl rfl rfl (pw_nil _ _ _) (List.Perm.refl _) (by decide) fun _ _ => ?_
    | refine o_call Try.func30 rfl rfl rfl (pr_nil _) (List.Perm.refl _) (by decide) fun _ _ => ?_
    | refine o_call Try.func40 rfl rfl rfl popen_nil (List.Perm.refl _) (by decide) fun _ _ => ?_
    | refine o_call Try.func32 rfl rfl rfl plen_nil (List.Perm.refl _) (by decide) fun _ _ => ?_
    | refine o_call Try.func34 rfl rfl rfl awake35 (List.Perm.refl _) (by decide) fun _ _ => ?_
    | refine c_seq ?_
    | refine c_block ?_
    | refine c_region ?_
    | refine c_mixed mixed (by kernel_rfl) ?_
    | refine c_skip ?_
    | refine c_ret ?_
    | refine c_exit ?_
    | refine z_list ?_
    | refine z_mixed ?_
    | refine x_then ?_
    | refine x_then_ret ?_
    | refine x_then_exit ?_
    | refine x_block _ ?_
    | refine x_block_ret _ ?_
    | refine x_block_exit _ ?_
    | refine x_block_past (by decide) ?_
    | (refine c_true rfl (by first | rfl | exact decide_eq_true ‹_› | exact decide_eq_true (by omega) | (simp only [Bool.not_eq_true', decide_eq_false_iff_not]; omega) | assumption) ?_)
    | (refine c_false rfl (by first | rfl | exact decide_eq_false ‹_› | exact decide_eq_false (by omega) | (simp only [Bool.not_eq_false', decide_eq_true_eq]; omega) | assumption) ?_)
    | (refine z_want rfl rfl (by first | rfl | exact decide_eq_true ‹_› | exact decide_eq_false ‹_› | exact decide_eq_true (by omega) | exact decide_eq_false (by omega) | (simp only [Bool.not_eq_true', Bool.not_eq_false', decide_eq_false_iff_not, decide_eq_true_eq]; omega) | assumption) ?_)
    | (refine z_skip (by decide) rfl rfl (by first | rfl | exact decide_eq_true ‹_› | exact decide_eq_false ‹_› | exact decide_eq_true (by omega) | exact decide_eq_false (by omega) | (simp only [Bool.not_eq_true', Bool.not_eq_false', decide_eq_false_iff_not, decide_eq_true_eq]; omega) | assumption) ?_)
    | refine z_skipu (by decide) rfl rfl ?_
    | refine o_move rfl (by decide) ?_
    | refine o_assign rfl (by decide) ?_
    | refine o_nil rfl (by decide) ?_
    | (refine o_pick1 rfl (by first | rfl | exact decide_eq_true ‹_› | exact decide_eq_true (by omega) | (simp only [Bool.not_eq_true', decide_eq_false_iff_not]; omega) | assumption) rfl (by decide) ?_)
    | (refine o_pick0 rfl (by first | rfl | exact decide_eq_false ‹_› | exact decide_eq_false (by omega) | (simp only [Bool.not_eq_false', decide_eq_true_eq]; omega) | assumption) rfl (by decide) ?_)
    | refine o_extract rfl rfl (by decide) ?_
    | refine o_not rfl (by decide) ?_
    | refine o_add rfl rfl (by omega) (by omega) (by decide) ?_
    | refine o_sub rfl rfl (by omega) (by omega) (by decide) ?_
    | refine o_quo rfl rfl (by omega) (by omega) (by omega) (by decide) ?_
    | refine o_rem rfl rfl (by omega) (by omega) (by decide) ?_
    | refine o_and rfl rfl (by decide) ?_
    | refine o_or rfl rfl (by decide) ?_
    | refine o_andNot rfl rfl (by decide) ?_
    | refine o_shl rfl rfl (by omega) (by decide) ?_
    | refine o_shr rfl rfl (by omega) (by decide) ?_
    | refine o_conv tabOk rfl rfl rfl (by decide) ?_
    | refine o_addw rfl rfl (by decide) ?_
    | refine o_subw rfl rfl (by decide) ?_
    | refine o_mulw rfl rfl (by decide) ?_
    | refine o_eq rfl rfl (by decide) ?_
    | refine o_ne rfl rfl (by decide) ?_
    | refine o_lt rfl rfl (by decide) ?_
    | refine o_le rfl rfl (by decide) ?_
    | refine o_gt rfl rfl (by decide) ?_
    | refine o_ge rfl rfl (by decide) ?_
    | refine o_peq tabOk rfl rfl (by decide) ?_
    | refine o_pne tabOk rfl rfl (by decide) ?_
    | refine o_beq tabOk rfl rfl rfl (by decide) ?_
    | refine o_bne tabOk rfl rfl rfl (by decide) ?_
    | refine o_field0 tabOk rfl rfl rfl rfl rfl (by decide) ?_
    | refine o_field tabOk rfl rfl rfl rfl rfl (by decide) ?_
    | refine o_index0 tabOk rfl rfl rfl rfl (by omega) (by omega) (by decide) ?_
    | refine o_index1 tabOk rfl rfl rfl rfl (by omega) (by omega) (by decide) ?_
    | refine o_len tabOk rfl rfl (by decide) ?_
    | refine o_min rfl rfl (by decide) ?_
    | refine o_max rfl rfl (by decide) ?_
    | refine o_indexs1 tabOk (by first | assumption) rfl rfl rfl rfl (by omega) (by omega) (by decide) ?_
    | refine o_load tabOk rfl rfl rfl 0 rfl (by first | rfl) (by decide) ?_
    | refine o_load tabOk rfl rfl rfl 1 rfl (by first | rfl) (by decide) ?_
    | refine o_load tabOk rfl rfl rfl 2 rfl (by first | rfl) (by decide) ?_
    | refine o_loads tabOk (by first | assumption | exact Rds.cons _ (by assumption) | exact Rds.cons _ (Rds.cons _ (by assumption)) | exact own_rds 0 rfl | exact own_rds 1 rfl | exact own_rds 2 rfl) rfl rfl rfl (by first | rfl) (by decide) ?_
    | refine o_store rfl tabOk rfl rfl rfl rfl rfl (by first | rfl) (by first | rfl) ?_
    | refine o_make1 rfl tabOk zeroOk rfl rfl rfl rfl rfl (by decide) fun g => ?_
    | refine o_append rfl tabOk zeroOk rfl rfl rfl rfl rfl rfl (by first | assumption | exact Rds.cons _ (by assumption) | exact Rds.cons _ (Rds.cons _ (by assumption)) | exact own_rds 0 rfl | exact own_rds 1 rfl | exact own_rds 2 rfl) (by first | rfl | simp) (by first | rfl | simp) (by omega) (by omega) (by decide) fun A' c' => ?_
    | refine o_slice tabOk rfl rfl rfl rfl rfl (by omega) (by omega) (by omega) (by decide) ?_
    | refine o_slicel tabOk rfl rfl rfl rfl (by omega) (by omega) (by omega) (by decide) ?_
    | refine o_sliceh tabOk rfl rfl rfl rfl (by omega) (by omega) (by decide) ?_
    | (refine z_front rfl 1 rfl ?_; refine o_append rfl tabOk zeroOk rfl rfl rfl rfl rfl rfl (by first | assumption | exact Rds.cons _ (by assumption) | exact Rds.cons _ (Rds.cons _ (by assumption)) | exact own_rds 0 rfl | exact own_rds 1 rfl | exact own_rds 2 rfl) (by first | rfl | simp) (by first | rfl | simp) (by omega) (by omega) (by decide) fun A' c' => ?_)
    | (refine z_front rfl 2 rfl ?_; refine o_append rfl tabOk zeroOk rfl rfl rfl rfl rfl rfl (by first | assumption | exact Rds.cons _ (by assumption) | exact Rds.cons _ (Rds.cons _ (by assumption)) | exact own_rds 0 rfl | exact own_rds 1 rfl | exact own_rds 2 rfl) (by first | rfl | simp) (by first | rfl | simp) (by omega) (by omega) (by decide) fun A' c' => ?_)
    | (refine z_front rfl 3 rfl ?_; refine o_append rfl tabOk zeroOk rfl rfl rfl rfl rfl rfl (by first | assumption | exact Rds.cons _ (by assumption) | exact Rds.cons _ (Rds.cons _ (by assumption)) | exact own_rds 0 rfl | exact own_rds 1 rfl | exact own_rds 2 rfl) (by first | rfl | simp) (by first | rfl | simp) (by omega) (by omega) (by decide) fun A' c' => ?_)
    | refine z_guard1 (by decide) rfl rfl (fun hc => ?_) (fun hc => ?_)
    | refine z_guard0 (by decide) rfl rfl (fun hc => ?_) (fun hc => ?_)
    | refine z_guardb (by decide) rfl rfl (fun hc => ?_) (fun hc => ?_)
    | refine c_cond rfl (fun hc => ?_) (fun hc => ?_)
    | refine c_condb rfl (fun hc => ?_) (fun hc => ?_))
end Go.Proofs.Ytjejnlfbonpfaaa
