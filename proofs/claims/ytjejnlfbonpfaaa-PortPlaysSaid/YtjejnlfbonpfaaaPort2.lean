/-
Port, more.
-/
import Derived.Test.YtjejnlfbonpfaaaPort
namespace Go.Proofs.Ytjejnlfbonpfaaa
set_option linter.unusedVariables false
set_option linter.unusedSimpArgs false
open Eng
attribute [local irreducible] Eng.Z Eng.S
section
variable (b : Nat) (r : Nat → Int) (a n x : Int)
theorem clear_low (h : 0 ≤ n) : Does Try.prog 35 [pp b] [portC b r a n] (fun _ : Unit => True) (fun _ => .int .i64 n) (fun _ => [portC b (fun _ => 0) 0 0]) := by
  intro w hw
  refine f_enter Try.func35 rfl Try.ntmps35 rfl hw ?_
  repeat' (first
    | refine o_call Try.func36 rfl rfl rfl (len_c b _ _ _) (List.Perm.refl _) (by decide) fun _ _ => ?_
    | refine o_build (v := .agg (portCs (fun _ => 0) 0 0).toArray) rfl (fun _ => by kernel_rfl) (by decide) ?_
    | (refine o_storew rfl tabOk rfl rfl rfl (by kernel_rfl) (by kernel_rfl) (by simp [portCs]) (by simp [portCs]; rfl) ?_)
    | exact f_ret1 rfl rfl () trivial rfl (fun w h => h)
    | refine c_seq ?_
    | refine c_block ?_
    | refine c_region ?_
    | refine c_mixed mixed (by kernel_rfl) ?_
    | refine c_skip ?_
    | refine c_ret ?_
    | refine c_exit ?_
    | refine z_list ?_
    | refine z_mixed ?_
    | refine x_then ?_
    | refine x_then_ret ?_
    | refine x_then_exit ?_
    | refine x_block _ ?_
    | refine x_block_ret _ ?_
    | refine x_block_exit _ ?_
    | refine x_block_past (by decide) ?_
    | (refine c_true rfl (by first | rfl | exact decide_eq_true ‹_› | exact decide_eq_true (by omega) | (simp only [Bool.not_eq_true', decide_eq_false_iff_not]; omega) | assumption) ?_)
    | (refine c_false rfl (by first | rfl | exact decide_eq_false ‹_› | exact decide_eq_false (by omega) | (simp only [Bool.not_eq_false', decide_eq_true_eq]; omega) | assumption) ?_)
    | (refine z_want rfl rfl (by first | rfl | exact decide_eq_true ‹_› | exact decide_eq_false ‹_› | exact decide_eq_true (by omega) | exact decide_eq_false (by omega) | (simp only [Bool.not_eq_true', Bool.not_eq_false', decide_eq_false_iff_not, decide_eq_true_eq]; omega) | assumption) ?_)
    | (refine z_skip (by decide) rfl rfl (by first | rfl | exact decide_eq_true ‹_› | exact decide_eq_false ‹_› | exact decide_eq_true (by omega) | exact decide_eq_false (by omega) | (simp only [Bool.not_eq_true', Bool.not_eq_false', decide_eq_false_iff_not, decide_eq_true_eq]; omega) | assumption) ?_)
    | refine z_skipu (by decide) rfl rfl ?_
    | refine o_move rfl (by decide) ?_
    | refine o_assign rfl (by decide) ?_
    | refine o_nil rfl (by decide) ?_
    | (refine o_pick1 rfl (by first | rfl | exact decide_eq_true ‹_› | exact decide_eq_true (by omega) | (simp only [Bool.not_eq_true', decide_eq_false_iff_not]; omega) | assumption) rfl (by decide) ?_)
    | (refine o_pick0 rfl (by first | rfl | exact decide_eq_false ‹_› | exact decide_eq_false (by omega) | (simp only [Bool.not_eq_false', decide_eq_true_eq]; omega) | assumption) rfl (by decide) ?_)
    | refine o_extract rfl rfl (by decide) ?_
    | refine o_not rfl (by decide) ?_
    | refine o_add rfl rfl (by omega) (by omega) (by decide) ?_
    | refine o_sub rfl rfl (by omega) (by omega) (by decide) ?_
    | refine o_quo rfl rfl (by omega) (by omega) (by omega) (by decide) ?_
    | refine o_rem rfl rfl (by omega) (by omega) (by decide) ?_
    | refine o_and rfl rfl (by decide) ?_
    | refine o_or rfl rfl (by decide) ?_
    | refine o_andNot rfl rfl (by decide) ?_
    | refine o_shl rfl rfl (by omega) (by decide) ?_
    | refine o_shr rfl rfl (by omega) (by decide) ?_
    | refine o_conv tabOk rfl rfl rfl (by decide) ?_
    | refine o_addw rfl rfl (by decide) ?_
    | refine o_subw rfl rfl (by decide) ?_
    | refine o_mulw rfl rfl (by decide) ?_
    | refine o_eq rfl rfl (by decide) ?_
    | refine o_ne rfl rfl (by decide) ?_
    | refine o_lt rfl rfl (by decide) ?_
    | refine o_le rfl rfl (by decide) ?_
    | refine o_gt rfl rfl (by decide) ?_
    | refine o_ge rfl rfl (by decide) ?_
    | refine o_peq tabOk rfl rfl (by decide) ?_
    | refine o_pne tabOk rfl rfl (by decide) ?_
    | refine o_beq tabOk rfl rfl rfl (by decide) ?_
    | refine o_bne tabOk rfl rfl rfl (by decide) ?_
    | refine o_field0 tabOk rfl rfl rfl rfl rfl (by decide) ?_
    | refine o_field tabOk rfl rfl rfl rfl rfl (by decide) ?_
    | refine o_index0 tabOk rfl rfl rfl rfl (by omega) (by omega) (by decide) ?_
    | refine o_index1 tabOk rfl rfl rfl rfl (by omega) (by omega) (by decide) ?_
    | refine o_len tabOk rfl rfl (by decide) ?_
    | refine o_min rfl rfl (by decide) ?_
    | refine o_max rfl rfl (by decide) ?_
    | refine o_indexs1 tabOk (by first | assumption) rfl rfl rfl rfl (by omega) (by omega) (by decide) ?_
    | refine o_load tabOk rfl rfl rfl 0 rfl (by first | exact port_at _ _ _ | exact port_len _ _ _ | exact port_el _ _ _ (by omega) | rfl) (by decide) ?_
    | refine o_load tabOk rfl rfl rfl 1 rfl (by first | exact port_at _ _ _ | exact port_len _ _ _ | exact port_el _ _ _ (by omega) | rfl) (by decide) ?_
    | refine o_load tabOk rfl rfl rfl 2 rfl (by first | exact port_at _ _ _ | exact port_len _ _ _ | exact port_el _ _ _ (by omega) | rfl) (by decide) ?_
    | refine o_loads tabOk (by first | assumption | exact Rds.cons _ (by assumption) | exact Rds.cons _ (Rds.cons _ (by assumption)) | exact own_rds 0 rfl | exact own_rds 1 rfl | exact own_rds 2 rfl) rfl rfl rfl (by first | exact port_at _ _ _ | exact port_len _ _ _ | exact port_el _ _ _ (by omega) | rfl) (by decide) ?_
    | refine o_store rfl tabOk rfl rfl rfl rfl rfl (by first | exact port_at _ _ _ | exact port_len _ _ _ | exact port_el _ _ _ (by omega) | rfl) (by first | exact port_set_at _ _ _ _ | exact port_set_len _ _ _ _ | exact port_set _ _ _ (by omega) _ | rfl) ?_
    | refine o_make1 rfl tabOk zeroOk rfl rfl rfl rfl rfl (by decide) fun g => ?_
    | refine o_append rfl tabOk zeroOk rfl rfl rfl rfl rfl rfl (by first | assumption | exact Rds.cons _ (by assumption) | exact Rds.cons _ (Rds.cons _ (by assumption)) | exact own_rds 0 rfl | exact own_rds 1 rfl | exact own_rds 2 rfl) (by first | rfl | simp) (by first | rfl | simp) (by omega) (by omega) (by decide) fun A' c' => ?_
    | refine o_slice tabOk rfl rfl rfl rfl rfl (by omega) (by omega) (by omega) (by decide) ?_
    | refine o_slicel tabOk rfl rfl rfl rfl (by omega) (by omega) (by omega) (by decide) ?_
    | refine o_sliceh tabOk rfl rfl rfl rfl (by omega) (by omega) (by decide) ?_
    | (refine z_front rfl 1 rfl ?_; refine o_append rfl tabOk zeroOk rfl rfl rfl rfl rfl rfl (by first | assumption | exact Rds.cons _ (by assumption) | exact Rds.cons _ (Rds.cons _ (by assumption)) | exact own_rds 0 rfl | exact own_rds 1 rfl | exact own_rds 2 rfl) (by first | rfl | simp) (by first | rfl | simp) (by omega) (by omega) (by decide) fun A' c' => ?_)
    | (refine z_front rfl 2 rfl ?_; refine o_append rfl tabOk zeroOk rfl rfl rfl rfl rfl rfl (by first | assumption | exact Rds.cons _ (by assumption) | exact Rds.cons _ (Rds.cons _ (by assumption)) | exact own_rds 0 rfl | exact own_rds 1 rfl | exact own_rds 2 rfl) (by first | rfl | simp) (by first | rfl | simp) (by omega) (by omega) (by decide) fun A' c' => ?_)
    | (refine z_front rfl 3 rfl ?_; refine o_append rfl tabOk zeroOk rfl rfl rfl rfl rfl rfl (by first | assumption | exact Rds.cons _ (by assumption) | exact Rds.cons _ (Rds.cons _ (by assumption)) | exact own_rds 0 rfl | exact own_rds 1 rfl | exact own_rds 2 rfl) (by first | rfl | simp) (by first | rfl | simp) (by omega) (by omega) (by decide) fun A' c' => ?_)
    | refine z_guard1 (by decide) rfl rfl (fun hc => ?_) (fun hc => ?_)
    | refine z_guard0 (by decide) rfl rfl (fun hc => ?_) (fun hc => ?_)
    | refine z_guardb (by decide) rfl rfl (fun hc => ?_) (fun hc => ?_)
    | refine c_cond rfl (fun hc => ?_) (fun hc => ?_)
    | refine c_condb rfl (fun hc => ?_) (fun hc => ?_))
theorem clear_nil : Does Try.prog 35 [.pointer none] [] (fun _ : Unit => True) (fun _ => .int .i64 0) (fun _ => []) := by
  intro w hw
  refine f_enter Try.func35 rfl Try.ntmps35 rfl hw ?_
  repeat' (first
    | refine o_call Try.func36 rfl rfl rfl len_nil (List.Perm.refl _) (by decide) fun _ _ => ?_
    | exact f_ret1 rfl rfl () trivial rfl (fun w h => h)
    | refine c_seq ?_
    | refine c_block ?_
    | refine c_region ?_
    | refine c_mixed mixed (by kernel_rfl) ?_
    | refine c_skip ?_
    | refine c_ret ?_
    | refine c_exit ?_
    | refine z_list ?_
    | refine z_mixed ?_
    | refine x_then ?_
    | refine x_then_ret ?_
    | refine x_then_exit ?_
    | refine x_block _ ?_
    | refine x_block_ret _ ?_
    | refine x_block_exit _ ?_
    | refine x_block_past (by decide) ?_
    | (refine c_true rfl (by first | rfl | exact decide_eq_true ‹_› | exact decide_eq_true (by omega) | (simp only [Bool.not_eq_true', decide_eq_false_iff_not]; omega) | assumption) ?_)
    | (refine c_false rfl (by first | rfl | exact decide_eq_false ‹_› | exact decide_eq_false (by omega) | (simp only [Bool.not_eq_false', decide_eq_true_eq]; omega) | assumption) ?_)
    | (refine z_want rfl rfl (by first | rfl | exact decide_eq_true ‹_› | exact decide_eq_false ‹_› | exact decide_eq_true (by omega) | exact decide_eq_false (by omega) | (simp only [Bool.not_eq_true', Bool.not_eq_false', decide_eq_false_iff_not, decide_eq_true_eq]; omega) | assumption) ?_)
    | (refine z_skip (by decide) rfl rfl (by first | rfl | exact decide_eq_true ‹_› | exact decide_eq_false ‹_› | exact decide_eq_true (by omega) | exact decide_eq_false (by omega) | (simp only [Bool.not_eq_true', Bool.not_eq_false', decide_eq_false_iff_not, decide_eq_true_eq]; omega) | assumption) ?_)
    | refine z_skipu (by decide) rfl rfl ?_
    | refine o_move rfl (by decide) ?_
    | refine o_assign rfl (by decide) ?_
    | refine o_nil rfl (by decide) ?_
    | (refine o_pick1 rfl (by first | rfl | exact decide_eq_true ‹_› | exact decide_eq_true (by omega) | (simp only [Bool.not_eq_true', decide_eq_false_iff_not]; omega) | assumption) rfl (by decide) ?_)
    | (refine o_pick0 rfl (by first | rfl | exact decide_eq_false ‹_› | exact decide_eq_false (by omega) | (simp only [Bool.not_eq_false', decide_eq_true_eq]; omega) | assumption) rfl (by decide) ?_)
    | refine o_extract rfl rfl (by decide) ?_
    | refine o_not rfl (by decide) ?_
    | refine o_add rfl rfl (by omega) (by omega) (by decide) ?_
    | refine o_sub rfl rfl (by omega) (by omega) (by decide) ?_
    | refine o_quo rfl rfl (by omega) (by omega) (by omega) (by decide) ?_
    | refine o_rem rfl rfl (by omega) (by omega) (by decide) ?_
    | refine o_and rfl rfl (by decide) ?_
    | refine o_or rfl rfl (by decide) ?_
    | refine o_andNot rfl rfl (by decide) ?_
    | refine o_shl rfl rfl (by omega) (by decide) ?_
    | refine o_shr rfl rfl (by omega) (by decide) ?_
    | refine o_conv tabOk rfl rfl rfl (by decide) ?_
    | refine o_addw rfl rfl (by decide) ?_
    | refine o_subw rfl rfl (by decide) ?_
    | refine o_mulw rfl rfl (by decide) ?_
    | refine o_eq rfl rfl (by decide) ?_
    | refine o_ne rfl rfl (by decide) ?_
    | refine o_lt rfl rfl (by decide) ?_
    | refine o_le rfl rfl (by decide) ?_
    | refine o_gt rfl rfl (by decide) ?_
    | refine o_ge rfl rfl (by decide) ?_
    | refine o_peq tabOk rfl rfl (by decide) ?_
    | refine o_pne tabOk rfl rfl (by decide) ?_
    | refine o_beq tabOk rfl rfl rfl (by decide) ?_
    | refine o_bne tabOk rfl rfl rfl (by decide) ?_
    | refine o_field0 tabOk rfl rfl rfl rfl rfl (by decide) ?_
    | refine o_field tabOk rfl rfl rfl rfl rfl (by decide) ?_
    | refine o_index0 tabOk rfl rfl rfl rfl (by omega) (by omega) (by decide) ?_
    | refine o_index1 tabOk rfl rfl rfl rfl (by omega) (by omega) (by decide) ?_
    | refine o_len tabOk rfl rfl (by decide) ?_
    | refine o_min rfl rfl (by decide) ?_
    | refine o_max rfl rfl (by decide) ?_
    | refine o_indexs1 tabOk (by first | assumption) rfl rfl rfl rfl (by omega) (by omega) (by decide) ?_
    | refine o_load tabOk rfl rfl rfl 0 rfl (by first | exact port_at _ _ _ | exact port_len _ _ _ | exact port_el _ _ _ (by omega) | rfl) (by decide) ?_
    | refine o_load tabOk rfl rfl rfl 1 rfl (by first | exact port_at _ _ _ | exact port_len _ _ _ | exact port_el _ _ _ (by omega) | rfl) (by decide) ?_
    | refine o_load tabOk rfl rfl rfl 2 rfl (by first | exact port_at _ _ _ | exact port_len _ _ _ | exact port_el _ _ _ (by omega) | rfl) (by decide) ?_
    | refine o_loads tabOk (by first | assumption | exact Rds.cons _ (by assumption) | exact Rds.cons _ (Rds.cons _ (by assumption)) | exact own_rds 0 rfl | exact own_rds 1 rfl | exact own_rds 2 rfl) rfl rfl rfl (by first | exact port_at _ _ _ | exact port_len _ _ _ | exact port_el _ _ _ (by omega) | rfl) (by decide) ?_
    | refine o_store rfl tabOk rfl rfl rfl rfl rfl (by first | exact port_at _ _ _ | exact port_len _ _ _ | exact port_el _ _ _ (by omega) | rfl) (by first | exact port_set_at _ _ _ _ | exact port_set_len _ _ _ _ | exact port_set _ _ _ (by omega) _ | rfl) ?_
    | refine o_make1 rfl tabOk zeroOk rfl rfl rfl rfl rfl (by decide) fun g => ?_
    | refine o_append rfl tabOk zeroOk rfl rfl rfl rfl rfl rfl (by first | assumption | exact Rds.cons _ (by assumption) | exact Rds.cons _ (Rds.cons _ (by assumption)) | exact own_rds 0 rfl | exact own_rds 1 rfl | exact own_rds 2 rfl) (by first | rfl | simp) (by first | rfl | simp) (by omega) (by omega) (by decide) fun A' c' => ?_
    | refine o_slice tabOk rfl rfl rfl rfl rfl (by omega) (by omega) (by omega) (by decide) ?_
    | refine o_slicel tabOk rfl rfl rfl rfl (by omega) (by omega) (by omega) (by decide) ?_
    | refine o_sliceh tabOk rfl rfl rfl rfl (by omega) (by omega) (by decide) ?_
    | (refine z_front rfl 1 rfl ?_; refine o_append rfl tabOk zeroOk rfl rfl rfl rfl rfl rfl (by first | assumption | exact Rds.cons _ (by assumption) | exact Rds.cons _ (Rds.cons _ (by assumption)) | exact own_rds 0 rfl | exact own_rds 1 rfl | exact own_rds 2 rfl) (by first | rfl | simp) (by first | rfl | simp) (by omega) (by omega) (by decide) fun A' c' => ?_)
    | (refine z_front rfl 2 rfl ?_; refine o_append rfl tabOk zeroOk rfl rfl rfl rfl rfl rfl (by first | assumption | exact Rds.cons _ (by assumption) | exact Rds.cons _ (Rds.cons _ (by assumption)) | exact own_rds 0 rfl | exact own_rds 1 rfl | exact own_rds 2 rfl) (by first | rfl | simp) (by first | rfl | simp) (by omega) (by omega) (by decide) fun A' c' => ?_)
    | (refine z_front rfl 3 rfl ?_; refine o_append rfl tabOk zeroOk rfl rfl rfl rfl rfl rfl (by first | assumption | exact Rds.cons _ (by assumption) | exact Rds.cons _ (Rds.cons _ (by assumption)) | exact own_rds 0 rfl | exact own_rds 1 rfl | exact own_rds 2 rfl) (by first | rfl | simp) (by first | rfl | simp) (by omega) (by omega) (by decide) fun A' c' => ?_)
    | refine z_guard1 (by decide) rfl rfl (fun hc => ?_) (fun hc => ?_)
    | refine z_guard0 (by decide) rfl rfl (fun hc => ?_) (fun hc => ?_)
    | refine z_guardb (by decide) rfl rfl (fun hc => ?_) (fun hc => ?_)
    | refine c_cond rfl (fun hc => ?_) (fun hc => ?_)
    | refine c_condb rfl (fun hc => ?_) (fun hc => ?_))
theorem all_nil : Does Try.prog 39 [.pointer none] [] (fun _ : Unit => True) (fun _ => .slice none 0 0) (fun _ => []) := by
  intro w hw
  refine f_enter Try.func39 rfl Try.ntmps39 rfl hw ?_
  repeat' (first
    | (refine c_loop (X := Unit) (fun _ => True) (fun _ => [(0, .pointer none), (3, .slice none 0 0), (6, .int .i64 0), (7, .int .i64 0)]) (fun _ => []) (fun k => 0) () trivial ⟨rfl, rfl, rfl, rfl, trivial⟩ (fun w h => h) (fun k hk => ?_))
    | refine o_call Try.func36 rfl rfl rfl len_nil (List.Perm.refl _) (by decide) fun _ _ => ?_
    | exact f_ret1 rfl rfl () trivial rfl (fun w h => h)
    | refine c_seq ?_
    | refine c_block ?_
    | refine c_region ?_
    | refine c_mixed mixed (by kernel_rfl) ?_
    | refine c_skip ?_
    | refine c_ret ?_
    | refine c_exit ?_
    | refine z_list ?_
    | refine z_mixed ?_
    | refine x_then ?_
    | refine x_then_ret ?_
    | refine x_then_exit ?_
    | refine x_block _ ?_
    | refine x_block_ret _ ?_
    | refine x_block_exit _ ?_
    | refine x_block_past (by decide) ?_
    | (refine c_true rfl (by first | rfl | exact decide_eq_true ‹_› | exact decide_eq_true (by omega) | (simp only [Bool.not_eq_true', decide_eq_false_iff_not]; omega) | assumption) ?_)
    | (refine c_false rfl (by first | rfl | exact decide_eq_false ‹_› | exact decide_eq_false (by omega) | (simp only [Bool.not_eq_false', decide_eq_true_eq]; omega) | assumption) ?_)
    | (refine z_want rfl rfl (by first | rfl | exact decide_eq_true ‹_› | exact decide_eq_false ‹_› | exact decide_eq_true (by omega) | exact decide_eq_false (by omega) | (simp only [Bool.not_eq_true', Bool.not_eq_false', decide_eq_false_iff_not, decide_eq_true_eq]; omega) | assumption) ?_)
    | (refine z_skip (by decide) rfl rfl (by first | rfl | exact decide_eq_true ‹_› | exact decide_eq_false ‹_› | exact decide_eq_true (by omega) | exact decide_eq_false (by omega) | (simp only [Bool.not_eq_true', Bool.not_eq_false', decide_eq_false_iff_not, decide_eq_true_eq]; omega) | assumption) ?_)
    | refine z_skipu (by decide) rfl rfl ?_
    | refine o_move rfl (by decide) ?_
    | refine o_assign rfl (by decide) ?_
    | refine o_nil rfl (by decide) ?_
    | (refine o_pick1 rfl (by first | rfl | exact decide_eq_true ‹_› | exact decide_eq_true (by omega) | (simp only [Bool.not_eq_true', decide_eq_false_iff_not]; omega) | assumption) rfl (by decide) ?_)
    | (refine o_pick0 rfl (by first | rfl | exact decide_eq_false ‹_› | exact decide_eq_false (by omega) | (simp only [Bool.not_eq_false', decide_eq_true_eq]; omega) | assumption) rfl (by decide) ?_)
    | refine o_extract rfl rfl (by decide) ?_
    | refine o_not rfl (by decide) ?_
    | refine o_add rfl rfl (by omega) (by omega) (by decide) ?_
    | refine o_sub rfl rfl (by omega) (by omega) (by decide) ?_
    | refine o_quo rfl rfl (by omega) (by omega) (by omega) (by decide) ?_
    | refine o_rem rfl rfl (by omega) (by omega) (by decide) ?_
    | refine o_and rfl rfl (by decide) ?_
    | refine o_or rfl rfl (by decide) ?_
    | refine o_andNot rfl rfl (by decide) ?_
    | refine o_shl rfl rfl (by omega) (by decide) ?_
    | refine o_shr rfl rfl (by omega) (by decide) ?_
    | refine o_conv tabOk rfl rfl rfl (by decide) ?_
    | refine o_addw rfl rfl (by decide) ?_
    | refine o_subw rfl rfl (by decide) ?_
    | refine o_mulw rfl rfl (by decide) ?_
    | refine o_eq rfl rfl (by decide) ?_
    | refine o_ne rfl rfl (by decide) ?_
    | refine o_lt rfl rfl (by decide) ?_
    | refine o_le rfl rfl (by decide) ?_
    | refine o_gt rfl rfl (by decide) ?_
    | refine o_ge rfl rfl (by decide) ?_
    | refine o_peq tabOk rfl rfl (by decide) ?_
    | refine o_pne tabOk rfl rfl (by decide) ?_
    | refine o_beq tabOk rfl rfl rfl (by decide) ?_
    | refine o_bne tabOk rfl rfl rfl (by decide) ?_
    | refine o_field0 tabOk rfl rfl rfl rfl rfl (by decide) ?_
    | refine o_field tabOk rfl rfl rfl rfl rfl (by decide) ?_
    | refine o_index0 tabOk rfl rfl rfl rfl (by omega) (by omega) (by decide) ?_
    | refine o_index1 tabOk rfl rfl rfl rfl (by omega) (by omega) (by decide) ?_
    | refine o_len tabOk rfl rfl (by decide) ?_
    | refine o_min rfl rfl (by decide) ?_
    | refine o_max rfl rfl (by decide) ?_
    | refine o_indexs1 tabOk (by first | assumption) rfl rfl rfl rfl (by omega) (by omega) (by decide) ?_
    | refine o_load tabOk rfl rfl rfl 0 rfl (by first | exact port_at _ _ _ | exact port_len _ _ _ | exact port_el _ _ _ (by omega) | rfl) (by decide) ?_
    | refine o_load tabOk rfl rfl rfl 1 rfl (by first | exact port_at _ _ _ | exact port_len _ _ _ | exact port_el _ _ _ (by omega) | rfl) (by decide) ?_
    | refine o_load tabOk rfl rfl rfl 2 rfl (by first | exact port_at _ _ _ | exact port_len _ _ _ | exact port_el _ _ _ (by omega) | rfl) (by decide) ?_
    | refine o_loads tabOk (by first | assumption | exact Rds.cons _ (by assumption) | exact Rds.cons _ (Rds.cons _ (by assumption)) | exact own_rds 0 rfl | exact own_rds 1 rfl | exact own_rds 2 rfl) rfl rfl rfl (by first | exact port_at _ _ _ | exact port_len _ _ _ | exact port_el _ _ _ (by omega) | rfl) (by decide) ?_
    | refine o_store rfl tabOk rfl rfl rfl rfl rfl (by first | exact port_at _ _ _ | exact port_len _ _ _ | exact port_el _ _ _ (by omega) | rfl) (by first | exact port_set_at _ _ _ _ | exact port_set_len _ _ _ _ | exact port_set _ _ _ (by omega) _ | rfl) ?_
    | refine o_make1 rfl tabOk zeroOk rfl rfl rfl rfl rfl (by decide) fun g => ?_
    | refine o_append rfl tabOk zeroOk rfl rfl rfl rfl rfl rfl (by first | assumption | exact Rds.cons _ (by assumption) | exact Rds.cons _ (Rds.cons _ (by assumption)) | exact own_rds 0 rfl | exact own_rds 1 rfl | exact own_rds 2 rfl) (by first | rfl | simp) (by first | rfl | simp) (by omega) (by omega) (by decide) fun A' c' => ?_
    | refine o_slice tabOk rfl rfl rfl rfl rfl (by omega) (by omega) (by omega) (by decide) ?_
    | refine o_slicel tabOk rfl rfl rfl rfl (by omega) (by omega) (by omega) (by decide) ?_
    | refine o_sliceh tabOk rfl rfl rfl rfl (by omega) (by omega) (by decide) ?_
    | (refine z_front rfl 1 rfl ?_; refine o_append rfl tabOk zeroOk rfl rfl rfl rfl rfl rfl (by first | assumption | exact Rds.cons _ (by assumption) | exact Rds.cons _ (Rds.cons _ (by assumption)) | exact own_rds 0 rfl | exact own_rds 1 rfl | exact own_rds 2 rfl) (by first | rfl | simp) (by first | rfl | simp) (by omega) (by omega) (by decide) fun A' c' => ?_)
    | (refine z_front rfl 2 rfl ?_; refine o_append rfl tabOk zeroOk rfl rfl rfl rfl rfl rfl (by first | assumption | exact Rds.cons _ (by assumption) | exact Rds.cons _ (Rds.cons _ (by assumption)) | exact own_rds 0 rfl | exact own_rds 1 rfl | exact own_rds 2 rfl) (by first | rfl | simp) (by first | rfl | simp) (by omega) (by omega) (by decide) fun A' c' => ?_)
    | (refine z_front rfl 3 rfl ?_; refine o_append rfl tabOk zeroOk rfl rfl rfl rfl rfl rfl (by first | assumption | exact Rds.cons _ (by assumption) | exact Rds.cons _ (Rds.cons _ (by assumption)) | exact own_rds 0 rfl | exact own_rds 1 rfl | exact own_rds 2 rfl) (by first | rfl | simp) (by first | rfl | simp) (by omega) (by omega) (by decide) fun A' c' => ?_)
    | refine z_guard1 (by decide) rfl rfl (fun hc => ?_) (fun hc => ?_)
    | refine z_guard0 (by decide) rfl rfl (fun hc => ?_) (fun hc => ?_)
    | refine z_guardb (by decide) rfl rfl (fun hc => ?_) (fun hc => ?_)
    | refine c_cond rfl (fun hc => ?_) (fun hc => ?_)
    | refine c_condb rfl (fun hc => ?_) (fun hc => ?_))
def ringTo (r : Nat → Int) (a : Int) (k : Nat) : List Value := (List.range k).map fun i : Nat => .int .u32 (r ((a + (i : Int)) % 64).toNat)
theorem ringTo_succ (r : Nat → Int) (a : Int) (k : Nat) : ringTo r a (k + 1) = ringTo r a k ++ [.int .u32 (r ((a + k) % 64).toNat)] := by
  unfold ringTo; rw [List.range_succ, List.map_append]; rfl
theorem all_low (m : Nat) (h0 : 0 ≤ a) (h1 : a < 64) (hm : m ≤ 64) : Does Try.prog 39 [pp b] [portC b r a m] (fun _ : Option Addr × Nat => True) (fun p => .slice p.1 m p.2) (fun p => [own p.1 p.2 38 1 m (ringTo r a m), portC b r a m]) := by
  intro w hw
  refine f_enter Try.func39 rfl Try.ntmps39 rfl hw ?_
  repeat' (first
    | ((refine c_loop (X := Nat × Option Addr × Nat) (fun x => x.1 ≤ m) (fun x => [(0, pp b), (3, .slice x.2.1 x.1 x.2.2), (6, .int .i64 m), (7, .int .i64 x.1)]) (fun x => [own x.2.1 x.2.2 38 1 x.1 (ringTo r a x.1), portC b r a m]) (fun x => m - x.1) (0, none, 0) (by omega) ⟨rfl, rfl, rfl, rfl, trivial⟩ (fun w h => h.nil 38 1) (fun x hx => ?_); obtain ⟨k, A, c⟩ := x; dsimp only at hx ⊢))
    | refine o_call Try.func36 rfl rfl rfl (len_c b _ _ _) (List.Perm.refl _) (by decide) fun _ _ => ?_
    | refine c_mixedx (id := 5) mixed (by kernel_rfl) ?_
    | refine z_mixedx ?_
    | (exact c_again (k + 1, A', c') (by dsimp only; omega) (by dsimp only; omega) ⟨rfl, rfl, rfl, rfl, trivial⟩ (fun w h => by rw [show ringTo r a (k + 1) = ringTo r a k ++ [.int .u32 (r ((a + k) % 64).toNat)] from ringTo_succ r a k]; exact h.mask [true, false, true]))
    | (exact f_ret1 rfl rfl (A, c) trivial (by obtain rfl : k = m := (by omega); rfl) (fun w h => by obtain rfl : k = m := (by omega); exact h))
    | refine c_seq ?_
    | refine c_block ?_
    | refine c_region ?_
    | refine c_mixed mixed (by kernel_rfl) ?_
    | refine c_skip ?_
    | refine c_ret ?_
    | refine c_exit ?_
    | refine z_list ?_
    | refine z_mixed ?_
    | refine x_then ?_
    | refine x_then_ret ?_
    | refine x_then_exit ?_
    | refine x_block _ ?_
    | refine x_block_ret _ ?_
    | refine x_block_exit _ ?_
    | refine x_block_past (by decide) ?_
    | (refine c_true rfl (by first | rfl | exact decide_eq_true ‹_› | exact decide_eq_true (by omega) | (simp only [Bool.not_eq_true', decide_eq_false_iff_not]; omega) | assumption) ?_)
    | (refine c_false rfl (by first | rfl | exact decide_eq_false ‹_› | exact decide_eq_false (by omega) | (simp only [Bool.not_eq_false', decide_eq_true_eq]; omega) | assumption) ?_)
    | (refine z_want rfl rfl (by first | rfl | exact decide_eq_true ‹_› | exact decide_eq_false ‹_› | exact decide_eq_true (by omega) | exact decide_eq_false (by omega) | (simp only [Bool.not_eq_true', Bool.not_eq_false', decide_eq_false_iff_not, decide_eq_true_eq]; omega) | assumption) ?_)
    | (refine z_skip (by decide) rfl rfl (by first | rfl | exact decide_eq_true ‹_› | exact decide_eq_false ‹_› | exact decide_eq_true (by omega) | exact decide_eq_false (by omega) | (simp only [Bool.not_eq_true', Bool.not_eq_false', decide_eq_false_iff_not, decide_eq_true_eq]; omega) | assumption) ?_)
    | refine z_skipu (by decide) rfl rfl ?_
    | refine o_move rfl (by decide) ?_
    | refine o_assign rfl (by decide) ?_
    | refine o_nil rfl (by decide) ?_
    | (refine o_pick1 rfl (by first | rfl | exact decide_eq_true ‹_› | exact decide_eq_true (by omega) | (simp only [Bool.not_eq_true', decide_eq_false_iff_not]; omega) | assumption) rfl (by decide) ?_)
    | (refine o_pick0 rfl (by first | rfl | exact decide_eq_false ‹_› | exact decide_eq_false (by omega) | (simp only [Bool.not_eq_false', decide_eq_true_eq]; omega) | assumption) rfl (by decide) ?_)
    | refine o_extract rfl rfl (by decide) ?_
    | refine o_not rfl (by decide) ?_
    | refine o_add rfl rfl (by omega) (by omega) (by decide) ?_
    | refine o_sub rfl rfl (by omega) (by omega) (by decide) ?_
    | refine o_quo rfl rfl (by omega) (by omega) (by omega) (by decide) ?_
    | refine o_rem rfl rfl (by omega) (by omega) (by decide) ?_
    | refine o_and rfl rfl (by decide) ?_
    | refine o_or rfl rfl (by decide) ?_
    | refine o_andNot rfl rfl (by decide) ?_
    | refine o_shl rfl rfl (by omega) (by decide) ?_
    | refine o_shr rfl rfl (by omega) (by decide) ?_
    | refine o_conv tabOk rfl rfl rfl (by decide) ?_
    | refine o_addw rfl rfl (by decide) ?_
    | refine o_subw rfl rfl (by decide) ?_
    | refine o_mulw rfl rfl (by decide) ?_
    | refine o_eq rfl rfl (by decide) ?_
    | refine o_ne rfl rfl (by decide) ?_
    | refine o_lt rfl rfl (by decide) ?_
    | refine o_le rfl rfl (by decide) ?_
    | refine o_gt rfl rfl (by decide) ?_
    | refine o_ge rfl rfl (by decide) ?_
    | refine o_peq tabOk rfl rfl (by decide) ?_
    | refine o_pne tabOk rfl rfl (by decide) ?_
    | refine o_beq tabOk rfl rfl rfl (by decide) ?_
    | refine o_bne tabOk rfl rfl rfl (by decide) ?_
    | refine o_field0 tabOk rfl rfl rfl rfl rfl (by decide) ?_
    | refine o_field tabOk rfl rfl rfl rfl rfl (by decide) ?_
    | refine o_index0 tabOk rfl rfl rfl rfl (by omega) (by omega) (by decide) ?_
    | refine o_index1 tabOk rfl rfl rfl rfl (by omega) (by omega) (by decide) ?_
    | refine o_len tabOk rfl rfl (by decide) ?_
    | refine o_min rfl rfl (by decide) ?_
    | refine o_max rfl rfl (by decide) ?_
    | refine o_indexs1 tabOk (by first | assumption) rfl rfl rfl rfl (by omega) (by omega) (by decide) ?_
    | refine o_load tabOk rfl rfl rfl 0 rfl (by first | exact port_at _ _ _ | exact port_len _ _ _ | exact port_el _ _ _ (by omega) | rfl) (by decide) ?_
    | refine o_load tabOk rfl rfl rfl 1 rfl (by first | exact port_at _ _ _ | exact port_len _ _ _ | exact port_el _ _ _ (by omega) | rfl) (by decide) ?_
    | refine o_load tabOk rfl rfl rfl 2 rfl (by first | exact port_at _ _ _ | exact port_len _ _ _ | exact port_el _ _ _ (by omega) | rfl) (by decide) ?_
    | refine o_loads tabOk (by first | assumption | exact Rds.cons _ (by assumption) | exact Rds.cons _ (Rds.cons _ (by assumption)) | exact own_rds 0 rfl | exact own_rds 1 rfl | exact own_rds 2 rfl) rfl rfl rfl (by first | exact port_at _ _ _ | exact port_len _ _ _ | exact port_el _ _ _ (by omega) | rfl) (by decide) ?_
    | refine o_store rfl tabOk rfl rfl rfl rfl rfl (by first | exact port_at _ _ _ | exact port_len _ _ _ | exact port_el _ _ _ (by omega) | rfl) (by first | exact port_set_at _ _ _ _ | exact port_set_len _ _ _ _ | exact port_set _ _ _ (by omega) _ | rfl) ?_
    | refine o_make1 rfl tabOk zeroOk rfl rfl rfl rfl rfl (by decide) fun g => ?_
    | refine o_append rfl tabOk zeroOk rfl rfl rfl rfl rfl rfl (by first | assumption | exact Rds.cons _ (by assumption) | exact Rds.cons _ (Rds.cons _ (by assumption)) | exact own_rds 0 rfl | exact own_rds 1 rfl | exact own_rds 2 rfl) (by first | rfl | simp) (by first | rfl | simp) (by omega) (by omega) (by decide) fun A' c' => ?_
    | refine o_slice tabOk rfl rfl rfl rfl rfl (by omega) (by omega) (by omega) (by decide) ?_
    | refine o_slicel tabOk rfl rfl rfl rfl (by omega) (by omega) (by omega) (by decide) ?_
    | refine o_sliceh tabOk rfl rfl rfl rfl (by omega) (by omega) (by decide) ?_
    | (refine z_front rfl 1 rfl ?_; refine o_append rfl tabOk zeroOk rfl rfl rfl rfl rfl rfl (by first | assumption | exact Rds.cons _ (by assumption) | exact Rds.cons _ (Rds.cons _ (by assumption)) | exact own_rds 0 rfl | exact own_rds 1 rfl | exact own_rds 2 rfl) (by first | rfl | simp) (by first | rfl | simp) (by omega) (by omega) (by decide) fun A' c' => ?_)
    | (refine z_front rfl 2 rfl ?_; refine o_append rfl tabOk zeroOk rfl rfl rfl rfl rfl rfl (by first | assumption | exact Rds.cons _ (by assumption) | exact Rds.cons _ (Rds.cons _ (by assumption)) | exact own_rds 0 rfl | exact own_rds 1 rfl | exact own_rds 2 rfl) (by first | rfl | simp) (by first | rfl | simp) (by omega) (by omega) (by decide) fun A' c' => ?_)
    | (refine z_front rfl 3 rfl ?_; refine o_append rfl tabOk zeroOk rfl rfl rfl rfl rfl rfl (by first | assumption | exact Rds.cons _ (by assumption) | exact Rds.cons _ (Rds.cons _ (by assumption)) | exact own_rds 0 rfl | exact own_rds 1 rfl | exact own_rds 2 rfl) (by first | rfl | simp) (by first | rfl | simp) (by omega) (by omega) (by decide) fun A' c' => ?_)
    | refine z_guard1 (by decide) rfl rfl (fun hc => ?_) (fun hc => ?_)
    | refine z_guard0 (by decide) rfl rfl (fun hc => ?_) (fun hc => ?_)
    | refine z_guardb (by decide) rfl rfl (fun hc => ?_) (fun hc => ?_)
    | refine c_cond rfl (fun hc => ?_) (fun hc => ?_)
    | refine c_condb rfl (fun hc => ?_) (fun hc => ?_))
end
end Go.Proofs.Ytjejnlfbonpfaaa
