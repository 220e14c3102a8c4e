/-
A nil port: the law, walked.
-/
import Derived.Test.YtjejnlfbonpfaaaPortLaw
namespace Go.Proofs.Ytjejnlfbonpfaaa
set_option linter.unusedVariables false
set_option linter.unusedSimpArgs false
open Eng
attribute [local irreducible] Eng.Z Eng.S Eng.arr portCs Eng.some_ Eng.own Eng.cells Eng.old
theorem portNone (W : World) (x : Int) : Does Try.prog 9 [.int .u32 x] [old W] (fun _ : Unit => True) (fun _ => .bool true) (fun _ => [old W]) := by
  intro w hw
  refine f_enter Try.func9 rfl Try.ntmps9 rfl hw ?_
  repeat' (first
    | exact f_ret1 rfl rfl () trivial rfl (fun w h => h.mask [false, true])
    | refine o_call Try.func20 rfl rfl rfl recv_nil (List.Perm.refl _) (by decide) fun _ _ => ?_
    | refine o_call Try.func19 rfl rfl rfl (send_nil _) (List.Perm.refl _) (by decide) fun _ _ => ?_
    | refine o_call Try.func36 rfl rfl rfl len_nil (List.Perm.refl _) (by decide) fun _ _ => ?_
    | refine o_call Try.func37 rfl rfl rfl room_nil (List.Perm.refl _) (by decide) fun _ _ => ?_
    | refine o_call Try.func21 rfl rfl rfl (sendall_nil _ _ _ [x] _ rfl (by decide) (by exact own_rds 0 rfl)) (List.Perm.of_eq (List.append_nil _).symm) (by decide) fun _ _ => ?_
    | refine o_call Try.func39 rfl rfl rfl all_nil (List.Perm.refl _) (by decide) fun _ _ => ?_
    | refine o_call Try.func35 rfl rfl rfl clear_nil (List.Perm.refl _) (by decide) fun _ _ => ?_
    | refine o_call Try.func22 rfl rfl rfl awake09 (List.Perm.refl _) (by decide) fun _ _ => ?_
    | refine c_seq ?_
    | refine c_block ?_
    | refine c_region ?_
    | refine c_mixed mixed (by kernel_rfl) ?_
    | refine c_skip ?_
    | refine c_ret ?_
    | refine c_exit ?_
    | refine z_list ?_
    | refine z_mixed ?_
    | refine x_then ?_
    | refine x_then_ret ?_
    | refine x_then_exit ?_
    | refine x_block _ ?_
    | refine x_block_ret _ ?_
    | refine x_block_exit _ ?_
    | refine x_block_past (by decide) ?_
    | (refine c_true rfl (by first | rfl | exact decide_eq_true ‹_› | exact decide_eq_true (by omega) | (simp only [Bool.not_eq_true', decide_eq_false_iff_not]; omega) | assumption) ?_)
    | (refine c_false rfl (by first | rfl | exact decide_eq_false ‹_› | exact decide_eq_false (by omega) | (simp only [Bool.not_eq_false', decide_eq_true_eq]; omega) | assumption) ?_)
    | (refine z_want rfl rfl (by first | rfl | exact decide_eq_true ‹_› | exact decide_eq_false ‹_› | exact decide_eq_true (by omega) | exact decide_eq_false (by omega) | (simp only [Bool.not_eq_true', Bool.not_eq_false', decide_eq_false_iff_not, decide_eq_true_eq]; omega) | assumption) ?_)
    | (refine z_skip (by decide) rfl rfl (by first | rfl | exact decide_eq_true ‹_› | exact decide_eq_false ‹_› | exact decide_eq_true (by omega) | exact decide_eq_false (by omega) | (simp only [Bool.not_eq_true', Bool.not_eq_false', decide_eq_false_iff_not, decide_eq_true_eq]; omega) | assumption) ?_)
    | refine z_skipu (by decide) rfl rfl ?_
    | refine o_move rfl (by decide) ?_
    | refine o_assign rfl (by decide) ?_
    | refine o_nil rfl (by decide) ?_
    | (refine o_pick1 rfl (by first | rfl | exact decide_eq_true ‹_› | exact decide_eq_true (by omega) | (simp only [Bool.not_eq_true', decide_eq_false_iff_not]; omega) | assumption) rfl (by decide) ?_)
    | (refine o_pick0 rfl (by first | rfl | exact decide_eq_false ‹_› | exact decide_eq_false (by omega) | (simp only [Bool.not_eq_false', decide_eq_true_eq]; omega) | assumption) rfl (by decide) ?_)
    | refine o_extract rfl rfl (by decide) ?_
    | refine o_not rfl (by decide) ?_
    | refine o_add rfl rfl (by omega) (by omega) (by decide) ?_
    | refine o_sub rfl rfl (by omega) (by omega) (by decide) ?_
    | refine o_quo rfl rfl (by omega) (by omega) (by omega) (by decide) ?_
    | refine o_rem rfl rfl (by omega) (by omega) (by decide) ?_
    | refine o_and rfl rfl (by decide) ?_
    | refine o_or rfl rfl (by decide) ?_
    | refine o_andNot rfl rfl (by decide) ?_
    | refine o_shl rfl rfl (by omega) (by decide) ?_
    | refine o_shr rfl rfl (by omega) (by decide) ?_
    | refine o_conv tabOk rfl rfl rfl (by decide) ?_
    | refine o_addw rfl rfl (by decide) ?_
    | refine o_subw rfl rfl (by decide) ?_
    | refine o_mulw rfl rfl (by decide) ?_
    | refine o_eq rfl rfl (by decide) ?_
    | refine o_ne rfl rfl (by decide) ?_
    | refine o_lt rfl rfl (by decide) ?_
    | refine o_le rfl rfl (by decide) ?_
    | refine o_gt rfl rfl (by decide) ?_
    | refine o_ge rfl rfl (by decide) ?_
    | refine o_peq tabOk rfl rfl (by decide) ?_
    | refine o_pne tabOk rfl rfl (by decide) ?_
    | refine o_beq tabOk rfl rfl rfl (by decide) ?_
    | refine o_bne tabOk rfl rfl rfl (by decide) ?_
    | refine o_field0 tabOk rfl rfl rfl rfl rfl (by decide) ?_
    | refine o_field tabOk rfl rfl rfl rfl rfl (by decide) ?_
    | refine o_index0 tabOk rfl rfl rfl rfl (by omega) (by omega) (by decide) ?_
    | refine o_index1 tabOk rfl rfl rfl rfl (by omega) (by omega) (by decide) ?_
    | refine o_len tabOk rfl rfl (by decide) ?_
    | refine o_indexs1 tabOk (by first | assumption) rfl rfl rfl rfl (by omega) (by omega) (by decide) ?_
    | refine o_load tabOk rfl rfl rfl 0 rfl (by first | rfl) (by decide) ?_
    | refine o_load tabOk rfl rfl rfl 1 rfl (by first | rfl) (by decide) ?_
    | refine o_load tabOk rfl rfl rfl 2 rfl (by first | rfl) (by decide) ?_
    | refine o_loads tabOk (by first | assumption | exact Rds.cons _ (by assumption) | exact Rds.cons _ (Rds.cons _ (by assumption)) | exact own_rds 0 rfl | exact own_rds 1 rfl | exact own_rds 2 rfl) rfl rfl rfl (by first | rfl) (by decide) ?_
    | refine o_store rfl tabOk rfl rfl rfl rfl rfl (by first | rfl) (by first | rfl) ?_
    | refine o_make1 rfl tabOk zeroOk rfl rfl rfl rfl rfl (by decide) fun g => ?_
    | refine o_append rfl tabOk zeroOk rfl rfl rfl rfl rfl rfl (by first | assumption | exact Rds.cons _ (by assumption) | exact Rds.cons _ (Rds.cons _ (by assumption)) | exact own_rds 0 rfl | exact own_rds 1 rfl | exact own_rds 2 rfl) (by first | rfl | simp) (by first | rfl | simp) (by omega) (by omega) (by decide) fun A' c' => ?_
    | refine o_slice tabOk rfl rfl rfl rfl rfl (by omega) (by omega) (by omega) (by decide) ?_
    | refine o_slicel tabOk rfl rfl rfl rfl (by omega) (by omega) (by omega) (by decide) ?_
    | refine o_sliceh tabOk rfl rfl rfl rfl (by omega) (by omega) (by decide) ?_
    | (refine z_front rfl 1 rfl ?_; refine o_append rfl tabOk zeroOk rfl rfl rfl rfl rfl rfl (by first | assumption | exact Rds.cons _ (by assumption) | exact Rds.cons _ (Rds.cons _ (by assumption)) | exact own_rds 0 rfl | exact own_rds 1 rfl | exact own_rds 2 rfl) (by first | rfl | simp) (by first | rfl | simp) (by omega) (by omega) (by decide) fun A' c' => ?_)
    | (refine z_front rfl 2 rfl ?_; refine o_append rfl tabOk zeroOk rfl rfl rfl rfl rfl rfl (by first | assumption | exact Rds.cons _ (by assumption) | exact Rds.cons _ (Rds.cons _ (by assumption)) | exact own_rds 0 rfl | exact own_rds 1 rfl | exact own_rds 2 rfl) (by first | rfl | simp) (by first | rfl | simp) (by omega) (by omega) (by decide) fun A' c' => ?_)
    | (refine z_front rfl 3 rfl ?_; refine o_append rfl tabOk zeroOk rfl rfl rfl rfl rfl rfl (by first | assumption | exact Rds.cons _ (by assumption) | exact Rds.cons _ (Rds.cons _ (by assumption)) | exact own_rds 0 rfl | exact own_rds 1 rfl | exact own_rds 2 rfl) (by first | rfl | simp) (by first | rfl | simp) (by omega) (by omega) (by decide) fun A' c' => ?_)
    | refine z_guard1 (by decide) rfl rfl (fun hc => ?_) (fun hc => ?_)
    | refine z_guard0 (by decide) rfl rfl (fun hc => ?_) (fun hc => ?_)
    | refine z_guardb (by decide) rfl rfl (fun hc => ?_) (fun hc => ?_)
    | refine c_cond rfl (fun hc => ?_) (fun hc => ?_)
    | refine c_condb rfl (fun hc => ?_) (fun hc => ?_))
end Go.Proofs.Ytjejnlfbonpfaaa
