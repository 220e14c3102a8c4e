/-
The law's own probe, gone on with.
-/
import Derived.Test.YtmfnjmmdchlkiaaFd2
namespace Go.Proofs.Ytmfnjmmdchlkiaa
set_option linter.unusedVariables false
set_option linter.unusedSimpArgs false
open Eng
attribute [local irreducible] Eng.Hold Eng.Z Eng.S Eng.cells Eng.old Eng.own tb op3 fl
attribute [local irreducible] rl
set_option maxHeartbeats 1000000 in
theorem dup_1 (F : Nat) : Does Try.prog 38 [.pointer (some ⟨F, 0, none⟩), .agg (tb 1 0).toArray, .int .i64 0] [cells F 117 (fl 1 3 0 1)] (fun _ : Unit => True) (fun _ => .tuple #[.agg (tb 1 1).toArray, .int .i64 1, .int .i64 0]) (fun _ => [cells F 117 (fl 1 3 0 2)]) := by
  intro w hw
  refine f_enter Try.func38 rfl Try.ntmps38 rfl hw ?_
  repeat' (first
   | ((refine s_sel 3 [2, 0, 1] (by decide) ?_; refine c_free1 ⟨[35], []⟩ [0, 1, 2, 3, 4, 7, 8, 5, 6, 9, 10] (id := 7) mixed (by kernel_rfl) ?_))
   | refine z_mono0w ?_
   | refine z_mono0ww ?_
   | (refine s_is ?_; first
   | (refine s_isret ?_; first
   | exact f_r3 rfl (res_c tabOk rfl rfl rfl 1 rfl (tb_len _ _)) (res_t rfl) (res_t rfl) () trivial rfl (fun w h => ((h.sel 3 [0, 1, 2] (by decide)).mask [true, false, false])))
   | (refine s_isw ?_; first
   | refine c_seq ?_
   | refine c_block ?_
   | refine c_region ?_
   | refine c_mixed mixed (by kernel_rfl) ?_
   | refine c_skip ?_
   | refine c_ret ?_
   | refine c_exit ?_
   | (refine s_iscond ?_; first
   | (refine c_true rfl (by first | with_reducible rfl | with_reducible assumption | ((with_reducible refine decide_eq_true ?_); first | with_reducible rfl | with_reducible assumption | omega)) ?_)
   | (refine c_false rfl (by first | with_reducible rfl | with_reducible assumption | ((with_reducible refine decide_eq_false ?_); first | with_reducible assumption | omega)) ?_)
   | (refine c_true rfl (by first | (simp only [Bool.not_eq_true', decide_eq_false_iff_not]; omega) | (with_reducible assumption) | (rw [decide_eq_false] <;> (first | omega | with_reducible rfl)) | (rw [decide_eq_true] <;> (first | omega | with_reducible rfl)) | (simp; done) | (simp; omega)) ?_)
   | (refine c_false rfl (by first | (simp only [Bool.not_eq_false', decide_eq_true_eq]; omega) | (with_reducible assumption) | (rw [decide_eq_false] <;> (first | omega | with_reducible rfl)) | (rw [decide_eq_true] <;> (first | omega | with_reducible rfl)) | (simp; done) | (simp; omega)) ?_)
   | refine c_cond rfl (fun hc => ?_) (fun hc => ?_)
   | refine c_condb rfl (fun hc => ?_) (fun hc => ?_)))
   | refine x_then ?_
   | refine x_then_ret ?_
   | refine x_then_exit ?_
   | refine x_block _ ?_
   | refine x_block_ret _ ?_
   | refine x_block_exit _ ?_
   | refine x_block_past (by decide) ?_
   | refine z_tailm ?_)
   | (refine z_isnil ?_; first
   | refine z_list ?_
   | refine z_mixed ?_
   | refine z_mono0 ?_
   | refine z_mono1 (by decide) fun g => ?_
   | refine z_mono2 (by decide) (by decide) fun g g' => ?_
   | refine z_mixedx ?_
   | refine z_quiet ?_)
   | (refine z_isop ?_; first
   | refine o_boxa rfl rfl (by decide) fun g => ?_
   | refine o_alloca (e := 80) (vs := tb 0 0) rfl (by kernel_rfl) (by decide) fun g => ?_
   | refine o_alloca (e := 83) (vs := op3 0 0 0) rfl (by kernel_rfl) (by decide) fun g => ?_
   | refine o_build0 (t := 83) (v := .agg (op3 0 0 0).toArray) (fun _ => by kernel_rfl) (by decide) ?_
   | refine o_build0 (t := 80) (v := .agg (tb 0 0).toArray) (fun _ => by kernel_rfl) (by decide) ?_
   | refine o_indexm tabOk rfl rfl rfl rfl (by omega) (by omega) (by decide) ?_
   | (refine z_isbin ?_; first
   | refine o_eqa cmp80 rfl rfl (tb_typed _ _) (tb_typed _ _) (by decide) ?_
   | (refine z_isb .add ?_; first
   | refine o_add rfl rfl (by omega) (by omega) (by decide) ?_
   | refine o_addw rfl rfl (by decide) ?_))
   | (refine z_isload ?_; first
   | refine o_load1v rfl tabOk rfl rfl rfl List.mem_cons_self (by exact fl_r _ _ _ _) (by decide) ?_
   | (refine z_ld1 tabOk rfl rfl ?_; first
   | refine o_loadm tabOk rfl rfl rfl (by repeat' (first | exact List.mem_cons_self | apply List.mem_cons_of_mem)) (by first | exact tb_0 _ _ | exact tb_1 _ _ | exact tb_l0 _ _ | exact tb_l1 _ _ | exact rl_0 _ | exact op_0 _ _ _ | exact op_1 _ _ _ | exact op_2 _ _ _ | exact fl_r _ _ _ _ | exact fl_a _ _ _ _ | exact rl_all _ (by omega) | rfl) (by decide) ?_
   | refine o_loads tabOk (by first | assumption | exact Rds.cons _ (by assumption) | exact Rds.cons _ (Rds.cons _ (by assumption)) | exact own_rds 0 rfl | exact own_rds 1 rfl | exact own_rds 2 rfl) rfl rfl rfl (by first | exact tb_0 _ _ | exact tb_1 _ _ | exact tb_l0 _ _ | exact tb_l1 _ _ | exact rl_0 _ | exact op_0 _ _ _ | exact op_1 _ _ _ | exact op_2 _ _ _ | exact fl_r _ _ _ _ | exact fl_a _ _ _ _ | exact rl_all _ (by omega) | rfl) (by decide) ?_)
   | (refine z_ldw tabOk rfl rfl ?_; first
   | (refine o_loadwm tabOk rfl rfl rfl (by repeat' (first | exact List.mem_cons_self | apply List.mem_cons_of_mem)) (by first | exact tb_len _ _ | exact op_len _ _ _ | exact fl_len _ _ _ _ | exact rl_len _ | (simp only [tb_len, op_len, fl_len, rl_len]; done) | rfl) (by decide) ?_)))
   | (refine z_isstore ?_; first
   | refine o_storev 0 tabOk rfl rfl rfl rfl rfl rfl rfl (by exact fl_r _ _ _ _) (by exact fl_setr _ _ _ _ _) ?_
   | (refine z_stw rfl ?_; first
   | ((refine z_sti 0 rfl rfl ?_; refine o_storeb0 rfl tabOk rfl rfl rfl (by first | exact tb_len _ _ | exact op_len _ _ _ | exact fl_len _ _ _ _ | exact rl_len _ | (simp only [tb_len, op_len, fl_len, rl_len]; done) | rfl) (by first | exact tb_one _ _ | exact op_one _ _ _ | exact fl_one _ _ _ _ | rfl) (by first | exact tb_len _ _ | exact op_len _ _ _ | exact fl_len _ _ _ _ | exact rl_len _ | (simp only [tb_len, op_len, fl_len, rl_len]; done) | rfl) ?_))
   | ((refine z_sti 1 rfl rfl ?_; refine o_storeb1 rfl tabOk rfl rfl rfl (by first | exact tb_len _ _ | exact op_len _ _ _ | exact fl_len _ _ _ _ | exact rl_len _ | (simp only [tb_len, op_len, fl_len, rl_len]; done) | rfl) (by first | exact tb_one _ _ | exact op_one _ _ _ | exact fl_one _ _ _ _ | rfl) (by first | exact tb_len _ _ | exact op_len _ _ _ | exact fl_len _ _ _ _ | exact rl_len _ | (simp only [tb_len, op_len, fl_len, rl_len]; done) | rfl) ?_))
   | ((refine z_sti 2 rfl rfl ?_; refine o_storeb2 rfl tabOk rfl rfl rfl (by first | exact tb_len _ _ | exact op_len _ _ _ | exact fl_len _ _ _ _ | exact rl_len _ | (simp only [tb_len, op_len, fl_len, rl_len]; done) | rfl) (by first | exact tb_one _ _ | exact op_one _ _ _ | exact fl_one _ _ _ _ | rfl) (by first | exact tb_len _ _ | exact op_len _ _ _ | exact fl_len _ _ _ _ | exact rl_len _ | (simp only [tb_len, op_len, fl_len, rl_len]; done) | rfl) ?_))
   | ((refine z_sti 3 rfl rfl ?_; refine o_storeb3 rfl tabOk rfl rfl rfl (by first | exact tb_len _ _ | exact op_len _ _ _ | exact fl_len _ _ _ _ | exact rl_len _ | (simp only [tb_len, op_len, fl_len, rl_len]; done) | rfl) (by first | exact tb_one _ _ | exact op_one _ _ _ | exact fl_one _ _ _ _ | rfl) (by first | exact tb_len _ _ | exact op_len _ _ _ | exact fl_len _ _ _ _ | exact rl_len _ | (simp only [tb_len, op_len, fl_len, rl_len]; done) | rfl) ?_))
   | ((refine z_sti 4 rfl rfl ?_; refine o_storeb4 rfl tabOk rfl rfl rfl (by first | exact tb_len _ _ | exact op_len _ _ _ | exact fl_len _ _ _ _ | exact rl_len _ | (simp only [tb_len, op_len, fl_len, rl_len]; done) | rfl) (by first | exact tb_one _ _ | exact op_one _ _ _ | exact fl_one _ _ _ _ | rfl) (by first | exact tb_len _ _ | exact op_len _ _ _ | exact fl_len _ _ _ _ | exact rl_len _ | (simp only [tb_len, op_len, fl_len, rl_len]; done) | rfl) ?_))
   | ((refine z_sti 5 rfl rfl ?_; refine o_storeb5 rfl tabOk rfl rfl rfl (by first | exact tb_len _ _ | exact op_len _ _ _ | exact fl_len _ _ _ _ | exact rl_len _ | (simp only [tb_len, op_len, fl_len, rl_len]; done) | rfl) (by first | exact tb_one _ _ | exact op_one _ _ _ | exact fl_one _ _ _ _ | rfl) (by first | exact tb_len _ _ | exact op_len _ _ _ | exact fl_len _ _ _ _ | exact rl_len _ | (simp only [tb_len, op_len, fl_len, rl_len]; done) | rfl) ?_))
   | ((refine z_sti 6 rfl rfl ?_; refine o_storeb6 rfl tabOk rfl rfl rfl (by first | exact tb_len _ _ | exact op_len _ _ _ | exact fl_len _ _ _ _ | exact rl_len _ | (simp only [tb_len, op_len, fl_len, rl_len]; done) | rfl) (by first | exact tb_one _ _ | exact op_one _ _ _ | exact fl_one _ _ _ _ | rfl) (by first | exact tb_len _ _ | exact op_len _ _ _ | exact fl_len _ _ _ _ | exact rl_len _ | (simp only [tb_len, op_len, fl_len, rl_len]; done) | rfl) ?_)))
   | (refine z_st1 rfl rfl ?_; first
   | refine o_store rfl tabOk rfl rfl rfl rfl rfl (by first | exact tb_0 _ _ | exact tb_1 _ _ | exact tb_l0 _ _ | exact tb_l1 _ _ | exact rl_0 _ | exact op_0 _ _ _ | exact op_1 _ _ _ | exact op_2 _ _ _ | exact fl_r _ _ _ _ | exact fl_a _ _ _ _ | exact rl_all _ (by omega) | rfl) (by first | exact tb_set0 _ _ _ | exact tb_set1 _ _ _ | exact fl_setr _ _ _ _ _ | rfl) ?_
   | ((refine z_sti 1 rfl rfl ?_; refine o_store1 rfl tabOk rfl rfl rfl rfl rfl (by first | exact tb_0 _ _ | exact tb_1 _ _ | exact tb_l0 _ _ | exact tb_l1 _ _ | exact rl_0 _ | exact op_0 _ _ _ | exact op_1 _ _ _ | exact op_2 _ _ _ | exact fl_r _ _ _ _ | exact fl_a _ _ _ _ | exact rl_all _ (by omega) | rfl) (by first | exact tb_set0 _ _ _ | exact tb_set1 _ _ _ | exact fl_setr _ _ _ _ _ | rfl) ?_))
   | ((refine z_sti 2 rfl rfl ?_; refine o_store2 rfl tabOk rfl rfl rfl rfl rfl (by first | exact tb_0 _ _ | exact tb_1 _ _ | exact tb_l0 _ _ | exact tb_l1 _ _ | exact rl_0 _ | exact op_0 _ _ _ | exact op_1 _ _ _ | exact op_2 _ _ _ | exact fl_r _ _ _ _ | exact fl_a _ _ _ _ | exact rl_all _ (by omega) | rfl) (by first | exact tb_set0 _ _ _ | exact tb_set1 _ _ _ | exact fl_setr _ _ _ _ _ | rfl) ?_))
   | ((refine z_sti 3 rfl rfl ?_; refine o_store3 rfl tabOk rfl rfl rfl rfl rfl (by first | exact tb_0 _ _ | exact tb_1 _ _ | exact tb_l0 _ _ | exact tb_l1 _ _ | exact rl_0 _ | exact op_0 _ _ _ | exact op_1 _ _ _ | exact op_2 _ _ _ | exact fl_r _ _ _ _ | exact fl_a _ _ _ _ | exact rl_all _ (by omega) | rfl) (by first | exact tb_set0 _ _ _ | exact tb_set1 _ _ _ | exact fl_setr _ _ _ _ _ | rfl) ?_))
   | ((refine z_sti 4 rfl rfl ?_; refine o_store4 rfl tabOk rfl rfl rfl rfl rfl (by first | exact tb_0 _ _ | exact tb_1 _ _ | exact tb_l0 _ _ | exact tb_l1 _ _ | exact rl_0 _ | exact op_0 _ _ _ | exact op_1 _ _ _ | exact op_2 _ _ _ | exact fl_r _ _ _ _ | exact fl_a _ _ _ _ | exact rl_all _ (by omega) | rfl) (by first | exact tb_set0 _ _ _ | exact tb_set1 _ _ _ | exact fl_setr _ _ _ _ _ | rfl) ?_))
   | ((refine z_sti 5 rfl rfl ?_; refine o_store5 rfl tabOk rfl rfl rfl rfl rfl (by first | exact tb_0 _ _ | exact tb_1 _ _ | exact tb_l0 _ _ | exact tb_l1 _ _ | exact rl_0 _ | exact op_0 _ _ _ | exact op_1 _ _ _ | exact op_2 _ _ _ | exact fl_r _ _ _ _ | exact fl_a _ _ _ _ | exact rl_all _ (by omega) | rfl) (by first | exact tb_set0 _ _ _ | exact tb_set1 _ _ _ | exact fl_setr _ _ _ _ _ | rfl) ?_))
   | ((refine z_sti 6 rfl rfl ?_; refine o_store6 rfl tabOk rfl rfl rfl rfl rfl (by first | exact tb_0 _ _ | exact tb_1 _ _ | exact tb_l0 _ _ | exact tb_l1 _ _ | exact rl_0 _ | exact op_0 _ _ _ | exact op_1 _ _ _ | exact op_2 _ _ _ | exact fl_r _ _ _ _ | exact fl_a _ _ _ _ | exact rl_all _ (by omega) | rfl) (by first | exact tb_set0 _ _ _ | exact tb_set1 _ _ _ | exact fl_setr _ _ _ _ _ | rfl) ?_))))
   | (refine z_iscall ?_; first
   | ((refine z_iscallf 56 ?_; refine o_callr rfl Try.func56 rfl rfl rfl (at_0 _ _ _ _ _ (by decide) _ _ (cells_rds 2 rfl)) (by decide) ?_))
   | ((refine z_iscallf 55 ?_; refine o_fn rfl Try.func55 rfl rfl rfl (free_1) (by decide) ?_)))
   | (refine z_isix ?_; first
   | refine o_index0 tabOk rfl rfl rfl rfl (by omega) (by omega) (by decide) ?_
   | refine o_index1 tabOk rfl rfl rfl rfl (by omega) (by omega) (by decide) ?_
   | refine o_indexsk1 tabOk rfl rfl rfl rfl (by omega) (by omega) (by decide) ?_
   | refine o_indexsk tabOk rfl rfl rfl rfl (by omega) (by omega) (by decide) ?_
   | refine o_indexs1 tabOk (by first | assumption) rfl rfl rfl rfl (by omega) (by omega) (by decide) ?_)
   | refine o_move rfl (by decide) ?_
   | refine o_assign rfl (by decide) ?_
   | refine o_nil rfl (by decide) ?_
   | refine o_extract rfl rfl (by decide) ?_
   | refine o_not rfl (by decide) ?_
   | refine o_field0 tabOk rfl rfl rfl rfl rfl (by decide) ?_
   | refine o_field tabOk rfl rfl rfl rfl rfl (by decide) ?_
   | refine o_conv tabOk rfl rfl rfl (by decide) ?_))
set_option maxHeartbeats 1000000 in
theorem close_1 (F : Nat) : Does Try.prog 39 [.pointer (some ⟨F, 0, none⟩), .agg (tb 1 1).toArray, .int .i64 0] [cells F 117 (fl 1 3 0 2)] (fun _ : Unit => True) (fun _ => .tuple #[.agg (tb 0 1).toArray, .agg (op3 0 0 0).toArray, .bool false, .int .i64 0]) (fun _ => [cells F 117 (fl 1 3 0 1)]) := by
  intro w hw
  refine f_enter Try.func39 rfl Try.ntmps39 rfl hw ?_
  repeat' (first
   | ((refine s_sel 4 [3, 0, 1, 2] (by decide) ?_; refine c_free1 ⟨[32], []⟩ [0, 1, 2, 3, 4, 7, 8, 5, 6, 9, 10] (id := 5) mixed (by kernel_rfl) ?_))
   | refine z_mono0w ?_
   | refine z_mono0ww ?_
   | (refine s_is ?_; first
   | (refine s_isret ?_; first
   | exact f_r4 rfl (res_c tabOk rfl rfl rfl 2 rfl (tb_len _ _)) (res_c tabOk rfl rfl rfl 1 rfl (op_len _ _ _)) (res_t rfl) (res_t rfl) () trivial rfl (fun w h => ((h.sel 4 [0, 1, 2, 3] (by decide)).mask [true, false, false, false])))
   | (refine s_isw ?_; first
   | refine c_seq ?_
   | refine c_block ?_
   | refine c_region ?_
   | refine c_mixed mixed (by kernel_rfl) ?_
   | refine c_skip ?_
   | refine c_ret ?_
   | refine c_exit ?_
   | (refine s_iscond ?_; first
   | (refine c_true rfl (by first | with_reducible rfl | with_reducible assumption | ((with_reducible refine decide_eq_true ?_); first | with_reducible rfl | with_reducible assumption | omega)) ?_)
   | (refine c_false rfl (by first | with_reducible rfl | with_reducible assumption | ((with_reducible refine decide_eq_false ?_); first | with_reducible assumption | omega)) ?_)
   | (refine c_true rfl (by first | (simp only [Bool.not_eq_true', decide_eq_false_iff_not]; omega) | (with_reducible assumption) | (rw [decide_eq_false] <;> (first | omega | with_reducible rfl)) | (rw [decide_eq_true] <;> (first | omega | with_reducible rfl)) | (simp; done) | (simp; omega)) ?_)
   | (refine c_false rfl (by first | (simp only [Bool.not_eq_false', decide_eq_true_eq]; omega) | (with_reducible assumption) | (rw [decide_eq_false] <;> (first | omega | with_reducible rfl)) | (rw [decide_eq_true] <;> (first | omega | with_reducible rfl)) | (simp; done) | (simp; omega)) ?_)
   | refine c_cond rfl (fun hc => ?_) (fun hc => ?_)
   | refine c_condb rfl (fun hc => ?_) (fun hc => ?_)))
   | refine x_then ?_
   | refine x_then_ret ?_
   | refine x_then_exit ?_
   | refine x_block _ ?_
   | refine x_block_ret _ ?_
   | refine x_block_exit _ ?_
   | refine x_block_past (by decide) ?_
   | refine z_tailm ?_)
   | (refine z_isnil ?_; first
   | refine z_list ?_
   | refine z_mixed ?_
   | refine z_mono0 ?_
   | refine z_mono1 (by decide) fun g => ?_
   | refine z_mono2 (by decide) (by decide) fun g g' => ?_
   | refine z_mixedx ?_
   | refine z_quiet ?_)
   | (refine z_isop ?_; first
   | refine o_boxa rfl rfl (by decide) fun g => ?_
   | refine o_alloca (e := 80) (vs := tb 0 0) rfl (by kernel_rfl) (by decide) fun g => ?_
   | refine o_alloca (e := 83) (vs := op3 0 0 0) rfl (by kernel_rfl) (by decide) fun g => ?_
   | refine o_build0 (t := 83) (v := .agg (op3 0 0 0).toArray) (fun _ => by kernel_rfl) (by decide) ?_
   | refine o_build0 (t := 80) (v := .agg (tb 0 0).toArray) (fun _ => by kernel_rfl) (by decide) ?_
   | refine o_indexm tabOk rfl rfl rfl rfl (by omega) (by omega) (by decide) ?_
   | (refine z_isbin ?_; first
   | refine o_eqa cmp80 rfl rfl (tb_typed _ _) (tb_typed _ _) (by decide) ?_
   | (refine z_isb .sub ?_; first
   | refine o_sub rfl rfl (by omega) (by omega) (by decide) ?_
   | refine o_subw rfl rfl (by decide) ?_)
   | (refine z_isb .gtr ?_; first
   | refine o_gt rfl rfl (by decide) ?_))
   | (refine z_isload ?_; first
   | refine o_load1v rfl tabOk rfl rfl rfl List.mem_cons_self (by exact fl_r _ _ _ _) (by decide) ?_
   | (refine z_ld1 tabOk rfl rfl ?_; first
   | refine o_loadm tabOk rfl rfl rfl (by repeat' (first | exact List.mem_cons_self | apply List.mem_cons_of_mem)) (by first | exact tb_0 _ _ | exact tb_1 _ _ | exact tb_l0 _ _ | exact tb_l1 _ _ | exact rl_0 _ | exact op_0 _ _ _ | exact op_1 _ _ _ | exact op_2 _ _ _ | exact fl_r _ _ _ _ | exact fl_a _ _ _ _ | exact rl_all _ (by omega) | rfl) (by decide) ?_
   | refine o_loads tabOk (by first | assumption | exact Rds.cons _ (by assumption) | exact Rds.cons _ (Rds.cons _ (by assumption)) | exact own_rds 0 rfl | exact own_rds 1 rfl | exact own_rds 2 rfl) rfl rfl rfl (by first | exact tb_0 _ _ | exact tb_1 _ _ | exact tb_l0 _ _ | exact tb_l1 _ _ | exact rl_0 _ | exact op_0 _ _ _ | exact op_1 _ _ _ | exact op_2 _ _ _ | exact fl_r _ _ _ _ | exact fl_a _ _ _ _ | exact rl_all _ (by omega) | rfl) (by decide) ?_)
   | (refine z_ldw tabOk rfl rfl ?_; first
   | (refine o_loadwm tabOk rfl rfl rfl (by repeat' (first | exact List.mem_cons_self | apply List.mem_cons_of_mem)) (by first | exact tb_len _ _ | exact op_len _ _ _ | exact fl_len _ _ _ _ | exact rl_len _ | (simp only [tb_len, op_len, fl_len, rl_len]; done) | rfl) (by decide) ?_)))
   | (refine z_isstore ?_; first
   | refine o_storev 0 tabOk rfl rfl rfl rfl rfl rfl rfl (by exact fl_r _ _ _ _) (by exact fl_setr _ _ _ _ _) ?_
   | (refine z_stw rfl ?_; first
   | ((refine z_sti 0 rfl rfl ?_; refine o_storeb0 rfl tabOk rfl rfl rfl (by first | exact tb_len _ _ | exact op_len _ _ _ | exact fl_len _ _ _ _ | exact rl_len _ | (simp only [tb_len, op_len, fl_len, rl_len]; done) | rfl) (by first | exact tb_one _ _ | exact op_one _ _ _ | exact fl_one _ _ _ _ | rfl) (by first | exact tb_len _ _ | exact op_len _ _ _ | exact fl_len _ _ _ _ | exact rl_len _ | (simp only [tb_len, op_len, fl_len, rl_len]; done) | rfl) ?_))
   | ((refine z_sti 1 rfl rfl ?_; refine o_storeb1 rfl tabOk rfl rfl rfl (by first | exact tb_len _ _ | exact op_len _ _ _ | exact fl_len _ _ _ _ | exact rl_len _ | (simp only [tb_len, op_len, fl_len, rl_len]; done) | rfl) (by first | exact tb_one _ _ | exact op_one _ _ _ | exact fl_one _ _ _ _ | rfl) (by first | exact tb_len _ _ | exact op_len _ _ _ | exact fl_len _ _ _ _ | exact rl_len _ | (simp only [tb_len, op_len, fl_len, rl_len]; done) | rfl) ?_))
   | ((refine z_sti 2 rfl rfl ?_; refine o_storeb2 rfl tabOk rfl rfl rfl (by first | exact tb_len _ _ | exact op_len _ _ _ | exact fl_len _ _ _ _ | exact rl_len _ | (simp only [tb_len, op_len, fl_len, rl_len]; done) | rfl) (by first | exact tb_one _ _ | exact op_one _ _ _ | exact fl_one _ _ _ _ | rfl) (by first | exact tb_len _ _ | exact op_len _ _ _ | exact fl_len _ _ _ _ | exact rl_len _ | (simp only [tb_len, op_len, fl_len, rl_len]; done) | rfl) ?_))
   | ((refine z_sti 3 rfl rfl ?_; refine o_storeb3 rfl tabOk rfl rfl rfl (by first | exact tb_len _ _ | exact op_len _ _ _ | exact fl_len _ _ _ _ | exact rl_len _ | (simp only [tb_len, op_len, fl_len, rl_len]; done) | rfl) (by first | exact tb_one _ _ | exact op_one _ _ _ | exact fl_one _ _ _ _ | rfl) (by first | exact tb_len _ _ | exact op_len _ _ _ | exact fl_len _ _ _ _ | exact rl_len _ | (simp only [tb_len, op_len, fl_len, rl_len]; done) | rfl) ?_))
   | ((refine z_sti 4 rfl rfl ?_; refine o_storeb4 rfl tabOk rfl rfl rfl (by first | exact tb_len _ _ | exact op_len _ _ _ | exact fl_len _ _ _ _ | exact rl_len _ | (simp only [tb_len, op_len, fl_len, rl_len]; done) | rfl) (by first | exact tb_one _ _ | exact op_one _ _ _ | exact fl_one _ _ _ _ | rfl) (by first | exact tb_len _ _ | exact op_len _ _ _ | exact fl_len _ _ _ _ | exact rl_len _ | (simp only [tb_len, op_len, fl_len, rl_len]; done) | rfl) ?_))
   | ((refine z_sti 5 rfl rfl ?_; refine o_storeb5 rfl tabOk rfl rfl rfl (by first | exact tb_len _ _ | exact op_len _ _ _ | exact fl_len _ _ _ _ | exact rl_len _ | (simp only [tb_len, op_len, fl_len, rl_len]; done) | rfl) (by first | exact tb_one _ _ | exact op_one _ _ _ | exact fl_one _ _ _ _ | rfl) (by first | exact tb_len _ _ | exact op_len _ _ _ | exact fl_len _ _ _ _ | exact rl_len _ | (simp only [tb_len, op_len, fl_len, rl_len]; done) | rfl) ?_))
   | ((refine z_sti 6 rfl rfl ?_; refine o_storeb6 rfl tabOk rfl rfl rfl (by first | exact tb_len _ _ | exact op_len _ _ _ | exact fl_len _ _ _ _ | exact rl_len _ | (simp only [tb_len, op_len, fl_len, rl_len]; done) | rfl) (by first | exact tb_one _ _ | exact op_one _ _ _ | exact fl_one _ _ _ _ | rfl) (by first | exact tb_len _ _ | exact op_len _ _ _ | exact fl_len _ _ _ _ | exact rl_len _ | (simp only [tb_len, op_len, fl_len, rl_len]; done) | rfl) ?_)))
   | (refine z_st1 rfl rfl ?_; first
   | refine o_store rfl tabOk rfl rfl rfl rfl rfl (by first | exact tb_0 _ _ | exact tb_1 _ _ | exact tb_l0 _ _ | exact tb_l1 _ _ | exact rl_0 _ | exact op_0 _ _ _ | exact op_1 _ _ _ | exact op_2 _ _ _ | exact fl_r _ _ _ _ | exact fl_a _ _ _ _ | exact rl_all _ (by omega) | rfl) (by first | exact tb_set0 _ _ _ | exact tb_set1 _ _ _ | exact fl_setr _ _ _ _ _ | rfl) ?_
   | ((refine z_sti 1 rfl rfl ?_; refine o_store1 rfl tabOk rfl rfl rfl rfl rfl (by first | exact tb_0 _ _ | exact tb_1 _ _ | exact tb_l0 _ _ | exact tb_l1 _ _ | exact rl_0 _ | exact op_0 _ _ _ | exact op_1 _ _ _ | exact op_2 _ _ _ | exact fl_r _ _ _ _ | exact fl_a _ _ _ _ | exact rl_all _ (by omega) | rfl) (by first | exact tb_set0 _ _ _ | exact tb_set1 _ _ _ | exact fl_setr _ _ _ _ _ | rfl) ?_))
   | ((refine z_sti 2 rfl rfl ?_; refine o_store2 rfl tabOk rfl rfl rfl rfl rfl (by first | exact tb_0 _ _ | exact tb_1 _ _ | exact tb_l0 _ _ | exact tb_l1 _ _ | exact rl_0 _ | exact op_0 _ _ _ | exact op_1 _ _ _ | exact op_2 _ _ _ | exact fl_r _ _ _ _ | exact fl_a _ _ _ _ | exact rl_all _ (by omega) | rfl) (by first | exact tb_set0 _ _ _ | exact tb_set1 _ _ _ | exact fl_setr _ _ _ _ _ | rfl) ?_))
   | ((refine z_sti 3 rfl rfl ?_; refine o_store3 rfl tabOk rfl rfl rfl rfl rfl (by first | exact tb_0 _ _ | exact tb_1 _ _ | exact tb_l0 _ _ | exact tb_l1 _ _ | exact rl_0 _ | exact op_0 _ _ _ | exact op_1 _ _ _ | exact op_2 _ _ _ | exact fl_r _ _ _ _ | exact fl_a _ _ _ _ | exact rl_all _ (by omega) | rfl) (by first | exact tb_set0 _ _ _ | exact tb_set1 _ _ _ | exact fl_setr _ _ _ _ _ | rfl) ?_))
   | ((refine z_sti 4 rfl rfl ?_; refine o_store4 rfl tabOk rfl rfl rfl rfl rfl (by first | exact tb_0 _ _ | exact tb_1 _ _ | exact tb_l0 _ _ | exact tb_l1 _ _ | exact rl_0 _ | exact op_0 _ _ _ | exact op_1 _ _ _ | exact op_2 _ _ _ | exact fl_r _ _ _ _ | exact fl_a _ _ _ _ | exact rl_all _ (by omega) | rfl) (by first | exact tb_set0 _ _ _ | exact tb_set1 _ _ _ | exact fl_setr _ _ _ _ _ | rfl) ?_))
   | ((refine z_sti 5 rfl rfl ?_; refine o_store5 rfl tabOk rfl rfl rfl rfl rfl (by first | exact tb_0 _ _ | exact tb_1 _ _ | exact tb_l0 _ _ | exact tb_l1 _ _ | exact rl_0 _ | exact op_0 _ _ _ | exact op_1 _ _ _ | exact op_2 _ _ _ | exact fl_r _ _ _ _ | exact fl_a _ _ _ _ | exact rl_all _ (by omega) | rfl) (by first | exact tb_set0 _ _ _ | exact tb_set1 _ _ _ | exact fl_setr _ _ _ _ _ | rfl) ?_))
   | ((refine z_sti 6 rfl rfl ?_; refine o_store6 rfl tabOk rfl rfl rfl rfl rfl (by first | exact tb_0 _ _ | exact tb_1 _ _ | exact tb_l0 _ _ | exact tb_l1 _ _ | exact rl_0 _ | exact op_0 _ _ _ | exact op_1 _ _ _ | exact op_2 _ _ _ | exact fl_r _ _ _ _ | exact fl_a _ _ _ _ | exact rl_all _ (by omega) | rfl) (by first | exact tb_set0 _ _ _ | exact tb_set1 _ _ _ | exact fl_setr _ _ _ _ _ | rfl) ?_))))
   | (refine z_iscall ?_; first
   | ((refine z_iscallf 56 ?_; refine o_callr rfl Try.func56 rfl rfl rfl (at_0 _ _ _ _ _ (by decide) _ _ (cells_rds 3 rfl)) (by decide) ?_))
   | ((refine z_iscallf 55 ?_; refine o_fn rfl Try.func55 rfl rfl rfl (free_1) (by decide) ?_)))
   | (refine z_isix ?_; first
   | refine o_index0 tabOk rfl rfl rfl rfl (by omega) (by omega) (by decide) ?_
   | refine o_index1 tabOk rfl rfl rfl rfl (by omega) (by omega) (by decide) ?_
   | refine o_indexsk1 tabOk rfl rfl rfl rfl (by omega) (by omega) (by decide) ?_
   | refine o_indexsk tabOk rfl rfl rfl rfl (by omega) (by omega) (by decide) ?_
   | refine o_indexs1 tabOk (by first | assumption) rfl rfl rfl rfl (by omega) (by omega) (by decide) ?_)
   | refine o_move rfl (by decide) ?_
   | refine o_assign rfl (by decide) ?_
   | refine o_nil rfl (by decide) ?_
   | refine o_extract rfl rfl (by decide) ?_
   | refine o_not rfl (by decide) ?_
   | refine o_field0 tabOk rfl rfl rfl rfl rfl (by decide) ?_
   | refine o_field tabOk rfl rfl rfl rfl rfl (by decide) ?_
   | refine o_conv tabOk rfl rfl rfl (by decide) ?_))
set_option maxHeartbeats 1000000 in
theorem close_2 (F : Nat) : Does Try.prog 39 [.pointer (some ⟨F, 0, none⟩), .agg (tb 0 1).toArray, .int .i64 1] [cells F 117 (fl 1 3 0 1)] (fun _ : Unit => True) (fun _ => .tuple #[.agg (tb 0 0).toArray, .agg (op3 1 3 0).toArray, .bool true, .int .i64 0]) (fun _ => [cells F 117 (fl 0 0 0 0)]) := by
  intro w hw
  refine f_enter Try.func39 rfl Try.ntmps39 rfl hw ?_
  repeat' (first
   | ((refine s_sel 4 [3, 0, 1, 2] (by decide) ?_; refine c_free1 ⟨[32], []⟩ [0, 1, 2, 3, 4, 7, 8, 5, 6, 9, 10] (id := 5) mixed (by kernel_rfl) ?_))
   | ((refine s_sel 5 [2, 3, 0, 1, 4] (by decide) ?_; refine c_free2 ⟨[], []⟩ [0, 1, 2, 3, 4, 5] (id := 10) mixed (by kernel_rfl) ?_))
   | refine z_mono0w ?_
   | refine z_mono0ww ?_
   | (refine s_is ?_; first
   | (refine s_isret ?_; first
   | exact f_r4 rfl (res_c tabOk rfl rfl rfl 1 rfl (tb_len _ _)) (res_c tabOk rfl rfl rfl 0 rfl (op_len _ _ _)) (res_t rfl) (res_t rfl) () trivial rfl (fun w h => ((h.sel 5 [3, 0, 1, 2, 4] (by decide)).mask [true, false, false, false, false])))
   | (refine s_isw ?_; first
   | refine c_seq ?_
   | refine c_block ?_
   | refine c_region ?_
   | refine c_mixed mixed (by kernel_rfl) ?_
   | refine c_skip ?_
   | refine c_ret ?_
   | refine c_exit ?_
   | (refine s_iscond ?_; first
   | (refine c_true rfl (by first | with_reducible rfl | with_reducible assumption | ((with_reducible refine decide_eq_true ?_); first | with_reducible rfl | with_reducible assumption | omega)) ?_)
   | (refine c_false rfl (by first | with_reducible rfl | with_reducible assumption | ((with_reducible refine decide_eq_false ?_); first | with_reducible assumption | omega)) ?_)
   | (refine c_true rfl (by first | (simp only [Bool.not_eq_true', decide_eq_false_iff_not]; omega) | (with_reducible assumption) | (rw [decide_eq_false] <;> (first | omega | with_reducible rfl)) | (rw [decide_eq_true] <;> (first | omega | with_reducible rfl)) | (simp; done) | (simp; omega)) ?_)
   | (refine c_false rfl (by first | (simp only [Bool.not_eq_false', decide_eq_true_eq]; omega) | (with_reducible assumption) | (rw [decide_eq_false] <;> (first | omega | with_reducible rfl)) | (rw [decide_eq_true] <;> (first | omega | with_reducible rfl)) | (simp; done) | (simp; omega)) ?_)
   | refine c_cond rfl (fun hc => ?_) (fun hc => ?_)
   | refine c_condb rfl (fun hc => ?_) (fun hc => ?_)))
   | refine x_then ?_
   | refine x_then_ret ?_
   | refine x_then_exit ?_
   | refine x_block _ ?_
   | refine x_block_ret _ ?_
   | refine x_block_exit _ ?_
   | refine x_block_past (by decide) ?_
   | refine z_tailm ?_)
   | (refine z_isnil ?_; first
   | refine z_list ?_
   | refine z_mixed ?_
   | refine z_mono0 ?_
   | refine z_mono1 (by decide) fun g => ?_
   | refine z_mono2 (by decide) (by decide) fun g g' => ?_
   | refine z_mixedx ?_
   | refine z_quiet ?_)
   | (refine z_isop ?_; first
   | refine o_boxa rfl rfl (by decide) fun g => ?_
   | refine o_alloca (e := 80) (vs := tb 0 0) rfl (by kernel_rfl) (by decide) fun g => ?_
   | refine o_alloca (e := 83) (vs := op3 0 0 0) rfl (by kernel_rfl) (by decide) fun g => ?_
   | refine o_build0 (t := 83) (v := .agg (op3 0 0 0).toArray) (fun _ => by kernel_rfl) (by decide) ?_
   | refine o_build0 (t := 80) (v := .agg (tb 0 0).toArray) (fun _ => by kernel_rfl) (by decide) ?_
   | refine o_indexm tabOk rfl rfl rfl rfl (by omega) (by omega) (by decide) ?_
   | (refine z_isbin ?_; first
   | refine o_eqa cmp80 rfl rfl (tb_typed _ _) (tb_typed _ _) (by decide) ?_
   | (refine z_isb .sub ?_; first
   | refine o_sub rfl rfl (by omega) (by omega) (by decide) ?_
   | refine o_subw rfl rfl (by decide) ?_)
   | (refine z_isb .gtr ?_; first
   | refine o_gt rfl rfl (by decide) ?_))
   | (refine z_isload ?_; first
   | refine o_loadp tabOk rfl rfl rfl 0 rfl (op_len _ _ _) (fl_os _ _ _ _) (by decide) ?_
   | refine o_load1v rfl tabOk rfl rfl rfl List.mem_cons_self (by exact fl_r _ _ _ _) (by decide) ?_
   | (refine z_ld1 tabOk rfl rfl ?_; first
   | refine o_loadm tabOk rfl rfl rfl (by repeat' (first | exact List.mem_cons_self | apply List.mem_cons_of_mem)) (by first | exact tb_0 _ _ | exact tb_1 _ _ | exact tb_l0 _ _ | exact tb_l1 _ _ | exact rl_0 _ | exact op_0 _ _ _ | exact op_1 _ _ _ | exact op_2 _ _ _ | exact fl_r _ _ _ _ | exact fl_a _ _ _ _ | exact rl_all _ (by omega) | rfl) (by decide) ?_
   | refine o_loads tabOk (by first | assumption | exact Rds.cons _ (by assumption) | exact Rds.cons _ (Rds.cons _ (by assumption)) | exact own_rds 0 rfl | exact own_rds 1 rfl | exact own_rds 2 rfl) rfl rfl rfl (by first | exact tb_0 _ _ | exact tb_1 _ _ | exact tb_l0 _ _ | exact tb_l1 _ _ | exact rl_0 _ | exact op_0 _ _ _ | exact op_1 _ _ _ | exact op_2 _ _ _ | exact fl_r _ _ _ _ | exact fl_a _ _ _ _ | exact rl_all _ (by omega) | rfl) (by decide) ?_)
   | (refine z_ldw tabOk rfl rfl ?_; first
   | (refine o_loadwm tabOk rfl rfl rfl (by repeat' (first | exact List.mem_cons_self | apply List.mem_cons_of_mem)) (by first | exact tb_len _ _ | exact op_len _ _ _ | exact fl_len _ _ _ _ | exact rl_len _ | (simp only [tb_len, op_len, fl_len, rl_len]; done) | rfl) (by decide) ?_)))
   | (refine z_isstore ?_; first
   | (refine o_storew_at rfl 1 tabOk rfl rfl rfl rfl (op_len _ _ _) (op_one _ _ _) (by simp only [fl_len, op_len]; decide) (by exact fl_put _ _ _ _ _ _ _) ?_)
   | (refine o_storebv 0 tabOk rfl rfl rfl rfl rfl (op_len _ _ _) (op_one _ _ _) (by simp only [op_len]; done) ?_)
   | (refine o_storebv 1 tabOk rfl rfl rfl rfl rfl (tb_len _ _) (tb_one _ _) (by simp only [tb_len]; done) ?_)
   | refine o_storev 0 tabOk rfl rfl rfl rfl rfl rfl rfl (by exact fl_r _ _ _ _) (by exact fl_setr _ _ _ _ _) ?_
   | (refine z_stw rfl ?_; first
   | ((refine z_sti 0 rfl rfl ?_; refine o_storeb0 rfl tabOk rfl rfl rfl (by first | exact tb_len _ _ | exact op_len _ _ _ | exact fl_len _ _ _ _ | exact rl_len _ | (simp only [tb_len, op_len, fl_len, rl_len]; done) | rfl) (by first | exact tb_one _ _ | exact op_one _ _ _ | exact fl_one _ _ _ _ | rfl) (by first | exact tb_len _ _ | exact op_len _ _ _ | exact fl_len _ _ _ _ | exact rl_len _ | (simp only [tb_len, op_len, fl_len, rl_len]; done) | rfl) ?_))
   | ((refine z_sti 1 rfl rfl ?_; refine o_storeb1 rfl tabOk rfl rfl rfl (by first | exact tb_len _ _ | exact op_len _ _ _ | exact fl_len _ _ _ _ | exact rl_len _ | (simp only [tb_len, op_len, fl_len, rl_len]; done) | rfl) (by first | exact tb_one _ _ | exact op_one _ _ _ | exact fl_one _ _ _ _ | rfl) (by first | exact tb_len _ _ | exact op_len _ _ _ | exact fl_len _ _ _ _ | exact rl_len _ | (simp only [tb_len, op_len, fl_len, rl_len]; done) | rfl) ?_))
   | ((refine z_sti 2 rfl rfl ?_; refine o_storeb2 rfl tabOk rfl rfl rfl (by first | exact tb_len _ _ | exact op_len _ _ _ | exact fl_len _ _ _ _ | exact rl_len _ | (simp only [tb_len, op_len, fl_len, rl_len]; done) | rfl) (by first | exact tb_one _ _ | exact op_one _ _ _ | exact fl_one _ _ _ _ | rfl) (by first | exact tb_len _ _ | exact op_len _ _ _ | exact fl_len _ _ _ _ | exact rl_len _ | (simp only [tb_len, op_len, fl_len, rl_len]; done) | rfl) ?_))
   | ((refine z_sti 3 rfl rfl ?_; refine o_storeb3 rfl tabOk rfl rfl rfl (by first | exact tb_len _ _ | exact op_len _ _ _ | exact fl_len _ _ _ _ | exact rl_len _ | (simp only [tb_len, op_len, fl_len, rl_len]; done) | rfl) (by first | exact tb_one _ _ | exact op_one _ _ _ | exact fl_one _ _ _ _ | rfl) (by first | exact tb_len _ _ | exact op_len _ _ _ | exact fl_len _ _ _ _ | exact rl_len _ | (simp only [tb_len, op_len, fl_len, rl_len]; done) | rfl) ?_))
   | ((refine z_sti 4 rfl rfl ?_; refine o_storeb4 rfl tabOk rfl rfl rfl (by first | exact tb_len _ _ | exact op_len _ _ _ | exact fl_len _ _ _ _ | exact rl_len _ | (simp only [tb_len, op_len, fl_len, rl_len]; done) | rfl) (by first | exact tb_one _ _ | exact op_one _ _ _ | exact fl_one _ _ _ _ | rfl) (by first | exact tb_len _ _ | exact op_len _ _ _ | exact fl_len _ _ _ _ | exact rl_len _ | (simp only [tb_len, op_len, fl_len, rl_len]; done) | rfl) ?_))
   | ((refine z_sti 5 rfl rfl ?_; refine o_storeb5 rfl tabOk rfl rfl rfl (by first | exact tb_len _ _ | exact op_len _ _ _ | exact fl_len _ _ _ _ | exact rl_len _ | (simp only [tb_len, op_len, fl_len, rl_len]; done) | rfl) (by first | exact tb_one _ _ | exact op_one _ _ _ | exact fl_one _ _ _ _ | rfl) (by first | exact tb_len _ _ | exact op_len _ _ _ | exact fl_len _ _ _ _ | exact rl_len _ | (simp only [tb_len, op_len, fl_len, rl_len]; done) | rfl) ?_))
   | ((refine z_sti 6 rfl rfl ?_; refine o_storeb6 rfl tabOk rfl rfl rfl (by first | exact tb_len _ _ | exact op_len _ _ _ | exact fl_len _ _ _ _ | exact rl_len _ | (simp only [tb_len, op_len, fl_len, rl_len]; done) | rfl) (by first | exact tb_one _ _ | exact op_one _ _ _ | exact fl_one _ _ _ _ | rfl) (by first | exact tb_len _ _ | exact op_len _ _ _ | exact fl_len _ _ _ _ | exact rl_len _ | (simp only [tb_len, op_len, fl_len, rl_len]; done) | rfl) ?_)))
   | (refine z_st1 rfl rfl ?_; first
   | refine o_store rfl tabOk rfl rfl rfl rfl rfl (by first | exact tb_0 _ _ | exact tb_1 _ _ | exact tb_l0 _ _ | exact tb_l1 _ _ | exact rl_0 _ | exact op_0 _ _ _ | exact op_1 _ _ _ | exact op_2 _ _ _ | exact fl_r _ _ _ _ | exact fl_a _ _ _ _ | exact rl_all _ (by omega) | rfl) (by first | exact tb_set0 _ _ _ | exact tb_set1 _ _ _ | exact fl_setr _ _ _ _ _ | rfl) ?_
   | ((refine z_sti 1 rfl rfl ?_; refine o_store1 rfl tabOk rfl rfl rfl rfl rfl (by first | exact tb_0 _ _ | exact tb_1 _ _ | exact tb_l0 _ _ | exact tb_l1 _ _ | exact rl_0 _ | exact op_0 _ _ _ | exact op_1 _ _ _ | exact op_2 _ _ _ | exact fl_r _ _ _ _ | exact fl_a _ _ _ _ | exact rl_all _ (by omega) | rfl) (by first | exact tb_set0 _ _ _ | exact tb_set1 _ _ _ | exact fl_setr _ _ _ _ _ | rfl) ?_))
   | ((refine z_sti 2 rfl rfl ?_; refine o_store2 rfl tabOk rfl rfl rfl rfl rfl (by first | exact tb_0 _ _ | exact tb_1 _ _ | exact tb_l0 _ _ | exact tb_l1 _ _ | exact rl_0 _ | exact op_0 _ _ _ | exact op_1 _ _ _ | exact op_2 _ _ _ | exact fl_r _ _ _ _ | exact fl_a _ _ _ _ | exact rl_all _ (by omega) | rfl) (by first | exact tb_set0 _ _ _ | exact tb_set1 _ _ _ | exact fl_setr _ _ _ _ _ | rfl) ?_))
   | ((refine z_sti 3 rfl rfl ?_; refine o_store3 rfl tabOk rfl rfl rfl rfl rfl (by first | exact tb_0 _ _ | exact tb_1 _ _ | exact tb_l0 _ _ | exact tb_l1 _ _ | exact rl_0 _ | exact op_0 _ _ _ | exact op_1 _ _ _ | exact op_2 _ _ _ | exact fl_r _ _ _ _ | exact fl_a _ _ _ _ | exact rl_all _ (by omega) | rfl) (by first | exact tb_set0 _ _ _ | exact tb_set1 _ _ _ | exact fl_setr _ _ _ _ _ | rfl) ?_))
   | ((refine z_sti 4 rfl rfl ?_; refine o_store4 rfl tabOk rfl rfl rfl rfl rfl (by first | exact tb_0 _ _ | exact tb_1 _ _ | exact tb_l0 _ _ | exact tb_l1 _ _ | exact rl_0 _ | exact op_0 _ _ _ | exact op_1 _ _ _ | exact op_2 _ _ _ | exact fl_r _ _ _ _ | exact fl_a _ _ _ _ | exact rl_all _ (by omega) | rfl) (by first | exact tb_set0 _ _ _ | exact tb_set1 _ _ _ | exact fl_setr _ _ _ _ _ | rfl) ?_))
   | ((refine z_sti 5 rfl rfl ?_; refine o_store5 rfl tabOk rfl rfl rfl rfl rfl (by first | exact tb_0 _ _ | exact tb_1 _ _ | exact tb_l0 _ _ | exact tb_l1 _ _ | exact rl_0 _ | exact op_0 _ _ _ | exact op_1 _ _ _ | exact op_2 _ _ _ | exact fl_r _ _ _ _ | exact fl_a _ _ _ _ | exact rl_all _ (by omega) | rfl) (by first | exact tb_set0 _ _ _ | exact tb_set1 _ _ _ | exact fl_setr _ _ _ _ _ | rfl) ?_))
   | ((refine z_sti 6 rfl rfl ?_; refine o_store6 rfl tabOk rfl rfl rfl rfl rfl (by first | exact tb_0 _ _ | exact tb_1 _ _ | exact tb_l0 _ _ | exact tb_l1 _ _ | exact rl_0 _ | exact op_0 _ _ _ | exact op_1 _ _ _ | exact op_2 _ _ _ | exact fl_r _ _ _ _ | exact fl_a _ _ _ _ | exact rl_all _ (by omega) | rfl) (by first | exact tb_set0 _ _ _ | exact tb_set1 _ _ _ | exact fl_setr _ _ _ _ _ | rfl) ?_))))
   | (refine z_iscall ?_; first
   | ((refine z_iscallf 56 ?_; refine o_callr rfl Try.func56 rfl rfl rfl (at_1 _ _ _ _ _ (by decide) _ _ (cells_rds 3 rfl)) (by decide) ?_))
   | ((refine z_iscallf 55 ?_; refine o_fn rfl Try.func55 rfl rfl rfl (free_1) (by decide) ?_)))
   | (refine z_isix ?_; first
   | refine o_index0 tabOk rfl rfl rfl rfl (by omega) (by omega) (by decide) ?_
   | refine o_index1 tabOk rfl rfl rfl rfl (by omega) (by omega) (by decide) ?_
   | refine o_indexsk1 tabOk rfl rfl rfl rfl (by omega) (by omega) (by decide) ?_
   | refine o_indexsk tabOk rfl rfl rfl rfl (by omega) (by omega) (by decide) ?_
   | refine o_indexs1 tabOk (by first | assumption) rfl rfl rfl rfl (by omega) (by omega) (by decide) ?_)
   | refine o_move rfl (by decide) ?_
   | refine o_assign rfl (by decide) ?_
   | refine o_nil rfl (by decide) ?_
   | refine o_extract rfl rfl (by decide) ?_
   | refine o_not rfl (by decide) ?_
   | refine o_field0 tabOk rfl rfl rfl rfl rfl (by decide) ?_
   | refine o_field tabOk rfl rfl rfl rfl rfl (by decide) ?_
   | refine o_conv tabOk rfl rfl rfl (by decide) ?_))
theorem len_1 (F : Nat) : Does Try.prog 45 [.pointer (some ⟨F, 0, none⟩)] [cells F 117 (fl 0 0 0 0)] (fun _ : Unit => True) (fun _ => .int .i64 0) (fun _ => [cells F 117 (fl 0 0 0 0)]) := by
  intro w hw
  refine f_enter Try.func45 rfl Try.ntmps45 rfl hw ?_
  repeat' (first
   | refine z_mono0w ?_
   | refine z_mono0ww ?_
   | (refine s_is ?_; first
   | (refine s_isagain ?_; first
   | exact c_again (n + 1) (by omega) (by omega) ⟨rfl, rfl, rfl, trivial⟩ (fun w h => h))
   | (refine s_isret ?_; first
   | exact f_r1 rfl (res_t rfl) () trivial rfl (fun w h => h))
   | (refine s_isw ?_; first
   | (refine s_isloop ?_; first
   | (refine c_loop (X := Nat) (fun n => n ≤ 16) (fun n => [(3, .int .i64 0), (11, .agg (rl 0).toArray), (12, .int .i64 n)]) (fun n => [cells F 117 (fl 0 0 0 0)]) (fun n => 16 - n) 0 (by omega) ⟨rfl, rfl, rfl, trivial⟩ (fun w h => h) (fun n hn => ?_)))
   | refine c_seq ?_
   | refine c_block ?_
   | refine c_region ?_
   | refine c_mixed mixed (by kernel_rfl) ?_
   | refine c_skip ?_
   | refine c_ret ?_
   | refine c_exit ?_
   | (refine s_iscond ?_; first
   | (refine c_true rfl (by first | with_reducible rfl | with_reducible assumption | ((with_reducible refine decide_eq_true ?_); first | with_reducible rfl | with_reducible assumption | omega)) ?_)
   | (refine c_false rfl (by first | with_reducible rfl | with_reducible assumption | ((with_reducible refine decide_eq_false ?_); first | with_reducible assumption | omega)) ?_)
   | (refine c_true rfl (by first | (simp only [Bool.not_eq_true', decide_eq_false_iff_not]; omega) | (with_reducible assumption) | (rw [decide_eq_false] <;> (first | omega | with_reducible rfl)) | (rw [decide_eq_true] <;> (first | omega | with_reducible rfl)) | (simp; done) | (simp; omega)) ?_)
   | (refine c_false rfl (by first | (simp only [Bool.not_eq_false', decide_eq_true_eq]; omega) | (with_reducible assumption) | (rw [decide_eq_false] <;> (first | omega | with_reducible rfl)) | (rw [decide_eq_true] <;> (first | omega | with_reducible rfl)) | (simp; done) | (simp; omega)) ?_)
   | refine c_cond rfl (fun hc => ?_) (fun hc => ?_)
   | refine c_condb rfl (fun hc => ?_) (fun hc => ?_)))
   | refine x_then ?_
   | refine x_then_ret ?_
   | refine x_then_exit ?_
   | refine x_block _ ?_
   | refine x_block_ret _ ?_
   | refine x_block_exit _ ?_
   | refine x_block_past (by decide) ?_
   | refine z_tailm ?_)
   | (refine z_isnil ?_; first
   | refine z_list ?_
   | refine z_mixed ?_
   | refine z_mono0 ?_
   | refine z_mono1 (by decide) fun g => ?_
   | refine z_mono2 (by decide) (by decide) fun g g' => ?_
   | refine z_mixedx ?_
   | refine z_quiet ?_)
   | (refine z_isop ?_; first
   | refine o_boxa rfl rfl (by decide) fun g => ?_
   | refine o_alloca (e := 80) (vs := tb 0 0) rfl (by kernel_rfl) (by decide) fun g => ?_
   | refine o_alloca (e := 83) (vs := op3 0 0 0) rfl (by kernel_rfl) (by decide) fun g => ?_
   | refine o_build0 (t := 83) (v := .agg (op3 0 0 0).toArray) (fun _ => by kernel_rfl) (by decide) ?_
   | refine o_build0 (t := 80) (v := .agg (tb 0 0).toArray) (fun _ => by kernel_rfl) (by decide) ?_
   | refine o_indexm tabOk rfl rfl rfl rfl (by omega) (by omega) (by decide) ?_
   | (refine z_isbin ?_; first
   | refine o_eqa cmp80 rfl rfl (tb_typed _ _) (tb_typed _ _) (by decide) ?_
   | (refine z_isb .add ?_; first
   | refine o_add rfl rfl (by omega) (by omega) (by decide) ?_
   | refine o_addw rfl rfl (by decide) ?_)
   | (refine z_isb .neq ?_; first
   | refine o_ne rfl rfl (by decide) ?_
   | refine o_bne tabOk rfl rfl rfl (by decide) ?_
   | refine o_pne tabOk rfl rfl (by decide) ?_)
   | (refine z_isb .lss ?_; first
   | refine o_lt rfl rfl (by decide) ?_)
   | (refine z_isb .gtr ?_; first
   | refine o_gt rfl rfl (by decide) ?_))
   | (refine z_isload ?_; first
   | refine o_load1v rfl tabOk rfl rfl rfl List.mem_cons_self (by exact fl_r _ _ _ _) (by decide) ?_
   | refine o_loadp tabOk rfl rfl rfl 0 rfl (rl_len _) (fl_rs _ _ _ _) (by decide) ?_
   | (refine z_ld1 tabOk rfl rfl ?_; first
   | refine o_loadm tabOk rfl rfl rfl (by repeat' (first | exact List.mem_cons_self | apply List.mem_cons_of_mem)) (by first | exact tb_0 _ _ | exact tb_1 _ _ | exact tb_l0 _ _ | exact tb_l1 _ _ | exact rl_0 _ | exact op_0 _ _ _ | exact op_1 _ _ _ | exact op_2 _ _ _ | exact fl_r _ _ _ _ | exact fl_a _ _ _ _ | exact rl_all _ (by omega) | rfl) (by decide) ?_
   | refine o_loads tabOk (by first | assumption | exact Rds.cons _ (by assumption) | exact Rds.cons _ (Rds.cons _ (by assumption)) | exact own_rds 0 rfl | exact own_rds 1 rfl | exact own_rds 2 rfl) rfl rfl rfl (by first | exact tb_0 _ _ | exact tb_1 _ _ | exact tb_l0 _ _ | exact tb_l1 _ _ | exact rl_0 _ | exact op_0 _ _ _ | exact op_1 _ _ _ | exact op_2 _ _ _ | exact fl_r _ _ _ _ | exact fl_a _ _ _ _ | exact rl_all _ (by omega) | rfl) (by decide) ?_)
   | (refine z_ldw tabOk rfl rfl ?_; first
   | (refine o_loadwm tabOk rfl rfl rfl (by repeat' (first | exact List.mem_cons_self | apply List.mem_cons_of_mem)) (by first | exact tb_len _ _ | exact op_len _ _ _ | exact fl_len _ _ _ _ | exact rl_len _ | (simp only [tb_len, op_len, fl_len, rl_len]; done) | rfl) (by decide) ?_)))
   | (refine z_isindex ?_; first
   | refine o_ixv tabOk rfl rfl rfl rfl rfl (by omega) (by omega) (by first | exact tb_0 _ _ | exact tb_1 _ _ | exact tb_l0 _ _ | exact tb_l1 _ _ | exact rl_0 _ | exact op_0 _ _ _ | exact op_1 _ _ _ | exact op_2 _ _ _ | exact fl_r _ _ _ _ | exact fl_a _ _ _ _ | exact rl_all _ (by omega) | rfl) (by decide) ?_)
   | (refine z_iscall ?_; first
   | ((refine z_iscallf 55 ?_; refine o_fn rfl Try.func55 rfl rfl rfl (free_1) (by decide) ?_)))
   | refine o_move rfl (by decide) ?_
   | refine o_assign rfl (by decide) ?_
   | refine o_nil rfl (by decide) ?_
   | refine o_extract rfl rfl (by decide) ?_
   | refine o_not rfl (by decide) ?_
   | refine o_field0 tabOk rfl rfl rfl rfl rfl (by decide) ?_
   | refine o_field tabOk rfl rfl rfl rfl rfl (by decide) ?_
   | refine o_conv tabOk rfl rfl rfl (by decide) ?_))
end Go.Proofs.Ytmfnjmmdchlkiaa
